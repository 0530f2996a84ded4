/-
  Chapter 21: the reference's machine: cases, a frame, a node, a step.
-/
import Derived.Test.YtjhkmebmbopfoaaMacN
namespace Go.Proofs.Ytjhkmebmbopfoaa
set_option linter.unusedSimpArgs false
set_option linter.unusedVariables false
set_option maxRecDepth 8000
set_option maxHeartbeats 2000000
open Go Go.Fx Go.Proofs
namespace FactsMacO
theorem ag37 : ag Try.prog 37 = some 9 := by kernel_rfl
theorem ag58 : ag Try.prog 58 = some 7 := by kernel_rfl
theorem ag76 : ag Try.prog 76 = some 10 := by kernel_rfl
theorem es22 : esz Try.prog 22 = some 9 := by kernel_rfl
theorem fo37_2 : foff Try.prog 37 2 = some 2 := by kernel_rfl
theorem fo37_3 : foff Try.prog 37 3 = some 3 := by kernel_rfl
theorem fo37_4 : foff Try.prog 37 4 = some 4 := by kernel_rfl
theorem fo37_5 : foff Try.prog 37 5 = some 5 := by kernel_rfl
theorem fo37_6 : foff Try.prog 37 6 = some 6 := by kernel_rfl
theorem fo37_7 : foff Try.prog 37 7 = some 7 := by kernel_rfl
theorem fo37_8 : foff Try.prog 37 8 = some 8 := by kernel_rfl
theorem fo58_0 : foff Try.prog 58 0 = some 0 := by kernel_rfl
theorem fo58_1 : foff Try.prog 58 1 = some 1 := by kernel_rfl
theorem fo58_5 : foff Try.prog 58 5 = some 5 := by kernel_rfl
theorem fo58_6 : foff Try.prog 58 6 = some 6 := by kernel_rfl
theorem fo60_0 : foff Try.prog 60 0 = some 0 := by kernel_rfl
theorem fo60_5 : foff Try.prog 60 5 = some 5 := by kernel_rfl
theorem fo76_0 : foff Try.prog 76 0 = some 0 := by kernel_rfl
theorem fo76_1 : foff Try.prog 76 1 = some 1 := by kernel_rfl
theorem fo76_2 : foff Try.prog 76 2 = some 2 := by kernel_rfl
theorem fo76_3 : foff Try.prog 76 3 = some 3 := by kernel_rfl
theorem mixed : Try.prog.follows .mixedOrders = true := by kernel_rfl
theorem pl58 : places Try.prog 58 = some [(0, 1), (1, 1), (2, 1), (3, 1), (4, 1), (5, 1), (6, 1)] := by kernel_rfl
theorem sc22 : sc Try.prog 22 = true := by kernel_rfl
theorem sc3 : sc Try.prog 3 = true := by kernel_rfl
theorem sc55 : sc Try.prog 55 = true := by kernel_rfl
theorem sc56 : sc Try.prog 56 = true := by kernel_rfl
theorem zc37 : zc Try.prog 37 = some [.int .i64 0, .int .i64 0, .int .i64 0, .int .i64 0, .int .i64 0, .int .i64 0, .int .i64 0, .int .i64 0, .int .i64 0] := by kernel_rfl
theorem zc58 : zc Try.prog 58 = some [.int .i64 0, .int .i64 0, .int .i64 0, .pointer none, .slice none 0 0, .pointer none, .pointer none] := by kernel_rfl
end FactsMacO
open FactsMacO

variable {L : List (List Int)} {N : Value} {m B : Nat} {G : Gh} {s : Nat} {fr : List Fr} {A : Option Addr} {cap : Nat} {ev dn : Bool} {nd' o1 o2 : Int} {pe : Value} {vc : List Value}
theorem caseMR_no {x : List Int} {f : Fr} {v : T} (h5 : kd v ≠ 5) (h6 : kd v ≠ 6) : caseM x fr f v = .fin 5 0 := by
  cases v <;> simp only [kd] at h5 h6 <;> first | rfl | omega
theorem case_up {x : List Int} {i : Int} {en hd : T} {n : Int} {one two : T} (h : n ≠ x.getD 4 0) (hf : findN en (x.getD 8 0) ≠ .nil) : caseM x fr ⟨0, i, en, hd⟩ (.op n one two) = .go (.gv fr (.op n one (.fwd two (findN en (x.getD 8 0))))) := by
  simp only [caseM]
  rw [if_neg h]
theorem case_off {x : List Int} {i : Int} {en hd : T} {n : Int} {one two : T} (h : n ≠ x.getD 4 0) (hf : findN en (x.getD 8 0) = .nil) : caseM x fr ⟨0, i, en, hd⟩ (.op n one two) = .fin 5 0 := by
  simp only [caseM]
  rw [if_neg h, hf]
theorem casesR_ok {H : Heap} (hT : Tm L) (hM : Qs L N m B G s H fr A cap false nd' pe vc false o1 o2) {i w : Int} {en hd v : T} {p : Value} {hc' : List Value} {x : List Int} (hx9 : x.length = 9)
    (hc7 : hc'.length = 7) (hc1 : ones hc' = true) (hen : rqE G en p) (hv : rqV G v vc) (hl : fr.length ≤ 4096) :
    Ret Try.prog 59 [ptr m 0, .agg (I w :: I i :: p :: hc').toArray, .agg (Is x).toArray] H (fun _ H' => AfterR L N m B (ob A) H (caseM x fr ⟨0, i, en, hd⟩ v) H') := by
  obtain ⟨vn, vi, vp, vq, vr, rfl⟩ := rqV_cells hv
  obtain ⟨a0, a1, a2, a3, a4, a5, a6, rfl⟩ := sevn hc7
  obtain ⟨Ap, rfl⟩ := rqE_one hen
  have hL := Chm.refl m (ob A) H
  have zM := hM.lt
  have hmo := hM.own
  have hat : ∀ j, j < 9 → (Is x)[0 + j]? = some (I (x.getD j 0)) := fun j hj => by rw [Nat.zero_add]; exact at_Is (by omega)
  refine Ret.of_at (N := 115) Try.call59 Try.func59 rfl rfl rfl ?_
  have hE := Ext.refl H
  have z_hL := hL.lt
  have z_hM := hM.lt
  have z_hmo := hmo.lt
  refine At.region rfl rfl ?_
  refine Reg.op rfl rfl rfl rfl (Does.box rfl rfl) ?_
  rintro _ H0_0 ⟨rfl, hn0_0⟩
  have z0_0 := hn0_0.size
  first | replace hL := hL.ext hn0_0.ext | skip
  replace hM := hM.ext hn0_0.ext
  replace hmo := hmo.ext hn0_0.ext
  have o0_0 := hn0_0.own
  refine Reg.op rfl rfl rfl rfl (Does.box rfl rfl) ?_
  rintro _ H0_1 ⟨rfl, hn0_1⟩
  have z0_1 := hn0_1.size
  first | replace hL := hL.ext hn0_1.ext | skip
  replace hM := hM.ext hn0_1.ext
  replace hmo := hmo.ext hn0_1.ext
  replace o0_0 := o0_0.ext hn0_1.ext
  have o0_1 := hn0_1.own
  refine Reg.nil ?_
  refine At.region rfl rfl ?_
  refine Reg.pur rfl rfl rfl rfl (Pur.mv rfl) ?_
  refine Reg.pur rfl rfl rfl rfl (Pur.nilc rfl) ?_
  refine Reg.pur rfl rfl rfl rfl (Pur.fld _ fo60_5 rfl) ?_
  refine Reg.pur rfl rfl rfl rfl (Pur.fld _ fo58_0 rfl) ?_
  refine Reg.lod rfl rfl rfl rfl (Lod.ld sc3 rfl hmo.blk rfl) ?_
  refine Reg.pur rfl rfl rfl rfl (Pur.eql rfl rfl) ?_
  refine Reg.pur rfl rfl rfl rfl (Pur.asg rfl) ?_
  refine Reg.nil ?_
  refine At.cond rfl rfl (fun q10 => ?_) (fun q10 => ?_)
  · first | (simp only [decide_eq_true_eq, decide_eq_false_iff_not, Bool.not_eq_true', Bool.not_eq_false', ne_eq, Decidable.not_not, Bool.not_eq_true, Bool.not_eq_false] at q10) | (dsimp only at q10) | skip
    obtain ⟨one, b1, d1, rfl, rfl, hG1, hone⟩ := rret_of hv q10
    have hB1 := hM.fz.st _ _ hG1
    have hne1 := hM.gne hG1
    have z_hB1 := hB1.lt
    refine At.drawE ((Bks.cons o0_1.blk (Bks.cons o0_0.blk (Bks.cons hmo.blk (Bks.cons hB1.blk Bks.nil))))) [15] mixed rfl rfl ?_
    refine RegD.tpur (i := 0) rfl rfl rfl rfl (by kernel_rfl) (Pur.mv rfl) ?_
    refine RegD.tpur (i := 1) rfl rfl rfl rfl (by kernel_rfl) (Pur.fld _ fo37_2 rfl) ?_
    refine RegD.takeT (i := 2) rfl rfl rfl rfl (by kernel_rfl) (Bks.cons o0_1.blk (Bks.cons o0_0.blk (Bks.cons hmo.blk (Bks.cons hB1.blk Bks.nil)))) (fun H hS => Lod.ld sc3 rfl hS.hd (hat 2 (by decide))) ?_
    refine RegD.tpur (i := 3) rfl rfl rfl rfl (by kernel_rfl) (Pur.fld _ fo76_2 rfl) ?_
    refine RegD.takeT (i := 4) rfl rfl rfl rfl (by kernel_rfl) (Bks.cons o0_1.blk (Bks.cons o0_0.blk (Bks.cons hmo.blk (Bks.cons hB1.blk Bks.nil)))) (fun H hS => Lod.ld sc55 rfl hS.tl.hd (by first | rfl | (simp; done))) ?_
    refine RegD.tpur (i := 5) rfl rfl rfl rfl (by kernel_rfl) (Pur.fld _ fo37_5 rfl) ?_
    refine RegD.takeT (i := 6) rfl rfl rfl rfl (by kernel_rfl) (Bks.cons o0_1.blk (Bks.cons o0_0.blk (Bks.cons hmo.blk (Bks.cons hB1.blk Bks.nil)))) (fun H hS => Lod.ld sc3 rfl hS.hd (hat 5 (by decide))) ?_
    refine RegD.tpur (i := 7) rfl rfl rfl rfl (by kernel_rfl) (Pur.mv rfl) ?_
    refine RegD.tpur (i := 8) rfl rfl rfl rfl (by kernel_rfl) (Pur.nilc rfl) ?_
    refine RegD.tpur (i := 9) rfl rfl rfl rfl (by kernel_rfl) (Pur.fld _ fo60_5 rfl) ?_
    refine RegD.tpur (i := 10) rfl rfl rfl rfl (by kernel_rfl) (Pur.fld _ fo58_5 rfl) ?_
    refine RegD.takeT (i := 11) rfl rfl rfl rfl (by kernel_rfl) (Bks.cons o0_1.blk (Bks.cons o0_0.blk (Bks.cons hmo.blk (Bks.cons hB1.blk Bks.nil)))) (fun H hS => Lod.ld sc56 rfl hS.tl.tl.hd rfl) ?_
    refine RegD.tpur (i := 12) rfl rfl rfl rfl (by kernel_rfl) (Pur.nilc rfl) ?_
    refine RegD.takeT (i := 13) rfl rfl rfl rfl (by kernel_rfl) (Bks.cons o0_1.blk (Bks.cons o0_0.blk (Bks.cons hmo.blk (Bks.cons hB1.blk Bks.nil)))) (fun H hS => Lod.ldn ag58 rfl hS.tl.tl.tl.hd (whole (rqV_seven hone)) (rqV_seven hone)) ?_

    refine RegD.one (i := 14) (by kernel_rfl) rfl rfl rfl rfl (Does.call rfl (namedR_ok hM hone hen _)) ?_
    rintro v8 H3_14 ⟨G2, hle2, hen2, hM2, hE3_14⟩
    have z3_14 := hE3_14.lt
    first | replace hL := hL.ext hE3_14 | skip
    replace hmo := hmo.ext hE3_14
    replace o0_0 := o0_0.ext hE3_14
    replace o0_1 := o0_1.ext hE3_14
    replace hB1 := hB1.ext hE3_14
    refine ⟨fun _ _ => (Bks.cons o0_1.blk (Bks.cons o0_0.blk (Bks.cons hmo.blk (Bks.cons hB1.blk Bks.nil)))), ?_⟩

    refine RegD.one (i := 15) (by kernel_rfl) rfl rfl rfl rfl (Does.call rfl (goesR_ok hM2 _ _ (rqE_cell hen2))) ?_
    rintro _ H3_15 ⟨hM3, hbut3_15⟩
    have z3_15 := hbut3_15.lt
    first | replace hL := hL.via hbut3_15 (by first | omega | (intro g; omega) | (intro g hg; omega) | (intro g hg h; omega)) | skip
    replace o0_0 := o0_0.via hbut3_15 (by first | omega | (intro g; omega) | (intro g hg; omega) | (intro g hg h; omega))
    replace o0_1 := o0_1.via hbut3_15 (by first | omega | (intro g; omega) | (intro g hg; omega) | (intro g hg h; omega))
    replace hB1 := hB1.via hbut3_15 (by first | omega | (intro g; omega) | (intro g hg; omega) | (intro g hg h; omega))
    refine ⟨fun h => (by cases h), ?_⟩
    refine RegD.done (by kernel_rfl) ?_
    refine At.fall rfl Try.func59 rfl ?_
    exact AfterR.ev hM3 hL hen2
  first | (simp only [decide_eq_true_eq, decide_eq_false_iff_not, Bool.not_eq_true', Bool.not_eq_false', ne_eq, Decidable.not_not, Bool.not_eq_true, Bool.not_eq_false] at q10) | (dsimp only at q10) | skip
  refine At.drawE ((Bks.cons o0_1.blk (Bks.cons hmo.blk Bks.nil))) [] mixed rfl rfl ?_
  refine RegD.tpur (i := 0) rfl rfl rfl rfl (by kernel_rfl) (Pur.mv rfl) ?_
  refine RegD.tpur (i := 1) rfl rfl rfl rfl (by kernel_rfl) (Pur.nilc rfl) ?_
  refine RegD.tpur (i := 2) rfl rfl rfl rfl (by kernel_rfl) (Pur.fld _ fo60_5 rfl) ?_
  refine RegD.tpur (i := 3) rfl rfl rfl rfl (by kernel_rfl) (Pur.fld _ fo58_0 rfl) ?_
  refine RegD.takeT (i := 4) rfl rfl rfl rfl (by kernel_rfl) (Bks.cons o0_1.blk (Bks.cons hmo.blk Bks.nil)) (fun H hS => Lod.ld sc3 rfl hS.tl.hd rfl) ?_
  refine RegD.tpur (i := 5) rfl rfl rfl rfl (by kernel_rfl) (Pur.eql rfl rfl) ?_
  refine RegD.tpur (i := 6) rfl rfl rfl rfl (by kernel_rfl) (Pur.mv rfl) ?_
  refine RegD.case 40 rfl (fun q40 => ?_) (fun q40 => ?_)
  · first | (simp only [decide_eq_true_eq, decide_eq_false_iff_not, Bool.not_eq_true', Bool.not_eq_false', ne_eq, Decidable.not_not, Bool.not_eq_true, Bool.not_eq_false] at q40) | (dsimp only at q40) | skip
    refine RegD.gtpur (i := 7) rfl rfl rfl rfl rfl rfl (by kernel_rfl) (Pur.mv rfl) ?_
    refine RegD.gtpur (i := 8) rfl rfl rfl rfl rfl rfl (by kernel_rfl) (Pur.nilc rfl) ?_
    refine RegD.gtpur (i := 9) rfl rfl rfl rfl rfl rfl (by kernel_rfl) (Pur.fld _ fo60_5 rfl) ?_
    refine RegD.gtpur (i := 10) rfl rfl rfl rfl rfl rfl (by kernel_rfl) (Pur.fld _ fo58_1 rfl) ?_
    refine RegD.gtakeT (i := 11) rfl rfl rfl rfl rfl rfl (by kernel_rfl) (Bks.cons o0_1.blk (Bks.cons hmo.blk Bks.nil)) (fun H hS => Lod.ld sc3 rfl hS.tl.hd rfl) ?_
    refine RegD.gtpur (i := 12) rfl rfl rfl rfl rfl rfl (by kernel_rfl) (Pur.fld _ fo37_4 rfl) ?_
    refine RegD.gtakeT (i := 13) rfl rfl rfl rfl rfl rfl (by kernel_rfl) (Bks.cons o0_1.blk (Bks.cons hmo.blk Bks.nil)) (fun H hS => Lod.ld sc3 rfl hS.hd (hat 4 (by decide))) ?_
    refine RegD.gtpur (i := 14) rfl rfl rfl rfl rfl rfl (by kernel_rfl) (Pur.eql rfl rfl) ?_
    refine RegD.tpur (i := 15) rfl rfl rfl rfl (by kernel_rfl) (Pur.pickT rfl rfl) ?_
    refine RegD.tpur (i := 16) rfl rfl rfl rfl (by kernel_rfl) (Pur.asg rfl) ?_
    refine RegD.done (by kernel_rfl) ?_
    refine At.cond rfl rfl (fun q33 => ?_) (fun q33 => ?_)
    · first | (simp only [decide_eq_true_eq, decide_eq_false_iff_not, Bool.not_eq_true', Bool.not_eq_false', ne_eq, Decidable.not_not, Bool.not_eq_true, Bool.not_eq_false] at q33) | (dsimp only at q33) | skip
      have h6 : kd v = 6 := by simp_all
      have hnm : vn = x.getD 4 0 := by simp_all
      obtain ⟨one, two, b1, d1, b2, d2, rfl, rfl, hG1, hone, rfl, hG2, htwo⟩ := rop_of hv h6
      have hB1 := hM.fz.st _ _ hG1
      have hne1 := hM.gne hG1
      have hB2 := hM.fz.st _ _ hG2
      have hne2 := hM.gne hG2
      have z_hB1 := hB1.lt
      have z_hB2 := hB2.lt
      refine At.drawE ((Bks.cons o0_1.blk (Bks.cons o0_0.blk (Bks.cons hmo.blk (Bks.cons hB1.blk (Bks.cons hB2.blk Bks.nil)))))) [25] mixed rfl rfl ?_
      refine RegD.tpur (i := 0) rfl rfl rfl rfl (by kernel_rfl) (Pur.mv rfl) ?_
      refine RegD.tpur (i := 1) rfl rfl rfl rfl (by kernel_rfl) (Pur.fld _ fo37_3 rfl) ?_
      refine RegD.takeT (i := 2) rfl rfl rfl rfl (by kernel_rfl) (Bks.cons o0_1.blk (Bks.cons o0_0.blk (Bks.cons hmo.blk (Bks.cons hB1.blk (Bks.cons hB2.blk Bks.nil))))) (fun H hS => Lod.ld sc3 rfl hS.hd (hat 3 (by decide))) ?_
      refine RegD.tpur (i := 3) rfl rfl rfl rfl (by kernel_rfl) (Pur.fld _ fo76_2 rfl) ?_
      refine RegD.takeT (i := 4) rfl rfl rfl rfl (by kernel_rfl) (Bks.cons o0_1.blk (Bks.cons o0_0.blk (Bks.cons hmo.blk (Bks.cons hB1.blk (Bks.cons hB2.blk Bks.nil))))) (fun H hS => Lod.ld sc55 rfl hS.tl.hd (by first | rfl | (simp; done))) ?_
      refine RegD.tpur (i := 5) rfl rfl rfl rfl (by kernel_rfl) (Pur.fld _ fo37_6 rfl) ?_
      refine RegD.takeT (i := 6) rfl rfl rfl rfl (by kernel_rfl) (Bks.cons o0_1.blk (Bks.cons o0_0.blk (Bks.cons hmo.blk (Bks.cons hB1.blk (Bks.cons hB2.blk Bks.nil))))) (fun H hS => Lod.ld sc3 rfl hS.hd (hat 6 (by decide))) ?_
      refine RegD.tpur (i := 7) rfl rfl rfl rfl (by kernel_rfl) (Pur.mv rfl) ?_
      refine RegD.tpur (i := 8) rfl rfl rfl rfl (by kernel_rfl) (Pur.nilc rfl) ?_
      refine RegD.tpur (i := 9) rfl rfl rfl rfl (by kernel_rfl) (Pur.fld _ fo60_5 rfl) ?_
      refine RegD.tpur (i := 10) rfl rfl rfl rfl (by kernel_rfl) (Pur.fld _ fo58_5 rfl) ?_
      refine RegD.takeT (i := 11) rfl rfl rfl rfl (by kernel_rfl) (Bks.cons o0_1.blk (Bks.cons o0_0.blk (Bks.cons hmo.blk (Bks.cons hB1.blk (Bks.cons hB2.blk Bks.nil))))) (fun H hS => Lod.ld sc56 rfl hS.tl.tl.hd rfl) ?_
      refine RegD.tpur (i := 12) rfl rfl rfl rfl (by kernel_rfl) (Pur.nilc rfl) ?_
      refine RegD.takeT (i := 13) rfl rfl rfl rfl (by kernel_rfl) (Bks.cons o0_1.blk (Bks.cons o0_0.blk (Bks.cons hmo.blk (Bks.cons hB1.blk (Bks.cons hB2.blk Bks.nil))))) (fun H hS => Lod.ldn ag58 rfl hS.tl.tl.tl.hd (whole (rqV_seven hone)) (rqV_seven hone)) ?_
      refine RegD.tpur (i := 15) rfl rfl rfl rfl (by kernel_rfl) (Pur.fld _ fo37_7 rfl) ?_
      refine RegD.takeT (i := 16) rfl rfl rfl rfl (by kernel_rfl) (Bks.cons o0_1.blk (Bks.cons o0_0.blk (Bks.cons hmo.blk (Bks.cons hB1.blk (Bks.cons hB2.blk Bks.nil))))) (fun H hS => Lod.ld sc3 rfl hS.hd (hat 7 (by decide))) ?_
      refine RegD.tpur (i := 17) rfl rfl rfl rfl (by kernel_rfl) (Pur.mv rfl) ?_
      refine RegD.tpur (i := 18) rfl rfl rfl rfl (by kernel_rfl) (Pur.nilc rfl) ?_
      refine RegD.tpur (i := 19) rfl rfl rfl rfl (by kernel_rfl) (Pur.fld _ fo60_5 rfl) ?_
      refine RegD.tpur (i := 20) rfl rfl rfl rfl (by kernel_rfl) (Pur.fld _ fo58_6 rfl) ?_
      refine RegD.takeT (i := 21) rfl rfl rfl rfl (by kernel_rfl) (Bks.cons o0_1.blk (Bks.cons o0_0.blk (Bks.cons hmo.blk (Bks.cons hB1.blk (Bks.cons hB2.blk Bks.nil))))) (fun H hS => Lod.ld sc56 rfl hS.tl.tl.hd rfl) ?_
      refine RegD.tpur (i := 22) rfl rfl rfl rfl (by kernel_rfl) (Pur.nilc rfl) ?_
      refine RegD.takeT (i := 23) rfl rfl rfl rfl (by kernel_rfl) (Bks.cons o0_1.blk (Bks.cons o0_0.blk (Bks.cons hmo.blk (Bks.cons hB1.blk (Bks.cons hB2.blk Bks.nil))))) (fun H hS => Lod.ldn ag58 rfl hS.tl.tl.tl.tl.hd (whole (rqV_seven htwo)) (rqV_seven htwo)) ?_

      refine RegD.one (i := 14) (by kernel_rfl) rfl rfl rfl rfl (Does.call rfl (namedR_ok hM hone hen _)) ?_
      rintro v8 H5_14 ⟨G2, hle2, hen2, hM2, hE5_14⟩
      have z5_14 := hE5_14.lt
      first | replace hL := hL.ext hE5_14 | skip
      replace hmo := hmo.ext hE5_14
      replace o0_0 := o0_0.ext hE5_14
      replace o0_1 := o0_1.ext hE5_14
      replace hB1 := hB1.ext hE5_14
      replace hB2 := hB2.ext hE5_14
      refine ⟨fun _ _ => (Bks.cons o0_1.blk (Bks.cons o0_0.blk (Bks.cons hmo.blk (Bks.cons hB1.blk (Bks.cons hB2.blk Bks.nil))))), ?_⟩
      refine RegD.one (i := 24) (by kernel_rfl) rfl rfl rfl rfl (Does.call rfl (namedR_ok hM2 (rqV_mono hle2 _ _ htwo) hen2 _)) ?_
      rintro v9 H5_24 ⟨G3, hle3, hen3, hM3, hE5_24⟩
      have z5_24 := hE5_24.lt
      first | replace hL := hL.ext hE5_24 | skip
      replace hmo := hmo.ext hE5_24
      replace o0_0 := o0_0.ext hE5_24
      replace o0_1 := o0_1.ext hE5_24
      replace hB1 := hB1.ext hE5_24
      replace hB2 := hB2.ext hE5_24
      refine ⟨fun _ _ => (Bks.cons o0_1.blk (Bks.cons o0_0.blk (Bks.cons hmo.blk (Bks.cons hB1.blk (Bks.cons hB2.blk Bks.nil))))), ?_⟩

      refine RegD.one (i := 25) (by kernel_rfl) rfl rfl rfl rfl (Does.call rfl (goesR_ok hM3 _ _ (rqE_cell hen3))) ?_
      rintro _ H5_25 ⟨hM4, hbut5_25⟩
      have z5_25 := hbut5_25.lt
      first | replace hL := hL.via hbut5_25 (by first | omega | (intro g; omega) | (intro g hg; omega) | (intro g hg h; omega)) | skip
      replace o0_0 := o0_0.via hbut5_25 (by first | omega | (intro g; omega) | (intro g hg; omega) | (intro g hg h; omega))
      replace o0_1 := o0_1.via hbut5_25 (by first | omega | (intro g; omega) | (intro g hg; omega) | (intro g hg h; omega))
      replace hB1 := hB1.via hbut5_25 (by first | omega | (intro g; omega) | (intro g hg; omega) | (intro g hg h; omega))
      replace hB2 := hB2.via hbut5_25 (by first | omega | (intro g; omega) | (intro g hg; omega) | (intro g hg h; omega))
      refine ⟨fun h => (by cases h), ?_⟩
      refine RegD.done (by kernel_rfl) ?_
      refine At.fall rfl Try.func59 rfl ?_
      rw [case_own hnm]
      exact AfterR.ev hM4 hL hen3
    first | (simp only [decide_eq_true_eq, decide_eq_false_iff_not, Bool.not_eq_true', Bool.not_eq_false', ne_eq, Decidable.not_not, Bool.not_eq_true, Bool.not_eq_false] at q33) | (dsimp only at q33) | skip
    refine At.region rfl rfl ?_
    refine Reg.pur rfl rfl rfl rfl (Pur.mv rfl) ?_
    refine Reg.pur rfl rfl rfl rfl (Pur.nilc rfl) ?_
    refine Reg.pur rfl rfl rfl rfl (Pur.fld _ fo60_5 rfl) ?_
    refine Reg.pur rfl rfl rfl rfl (Pur.fld _ fo58_0 rfl) ?_
    refine Reg.lod rfl rfl rfl rfl (Lod.ld sc3 rfl hmo.blk rfl) ?_
    refine Reg.pur rfl rfl rfl rfl (Pur.eql rfl rfl) ?_
    refine Reg.pur rfl rfl rfl rfl (Pur.asg rfl) ?_
    refine Reg.nil ?_
    refine At.cond rfl rfl (fun q76 => ?_) (fun q76 => ?_)
    · first | (simp only [decide_eq_true_eq, decide_eq_false_iff_not, Bool.not_eq_true', Bool.not_eq_false', ne_eq, Decidable.not_not, Bool.not_eq_true, Bool.not_eq_false] at q76) | (dsimp only at q76) | skip
      obtain ⟨one, two, b1, d1, b2, d2, rfl, rfl, hG1, hone, rfl, hG2, htwo⟩ := rop_of hv q76
      have hno : vn ≠ x.getD 4 0 := by simp_all
      refine At.region rfl rfl ?_
      refine Reg.pur rfl rfl rfl rfl (Pur.fld _ fo76_2 rfl) ?_
      refine Reg.lod rfl rfl rfl rfl (Lod.ld sc55 rfl o0_0.blk (by first | rfl | (simp; done))) ?_
      refine Reg.pur rfl rfl rfl rfl (Pur.fld _ fo37_8 rfl) ?_
      refine Reg.lod rfl rfl rfl rfl (Lod.ld sc3 rfl o0_1.blk (hat 8 (by decide))) ?_
      refine Reg.op rfl rfl rfl rfl (Does.call rfl (findR_ok hM.fz.st _ en _ hen)) ?_
      rintro _ H7_4 ⟨fc, fb, rfl, hfd, hE7_4⟩
      have z7_4 := hE7_4.lt
      first | replace hL := hL.ext hE7_4 | skip
      replace hM := hM.ext hE7_4
      replace hmo := hmo.ext hE7_4
      replace o0_0 := o0_0.ext hE7_4
      replace o0_1 := o0_1.ext hE7_4
      refine Reg.pur rfl rfl rfl rfl (Pur.mv rfl) ?_
      refine Reg.pur rfl rfl rfl rfl (Pur.ext rfl rfl) ?_
      refine Reg.pur rfl rfl rfl rfl (Pur.ext rfl rfl) ?_
      refine Reg.op rfl rfl rfl rfl (Does.alloc zc58) ?_
      rintro _ H7_8 ⟨rfl, hn7_8⟩
      have z7_8 := hn7_8.size
      first | replace hL := hL.ext hn7_8.ext | skip
      replace hM := hM.ext hn7_8.ext
      replace hmo := hmo.ext hn7_8.ext
      replace o0_0 := o0_0.ext hn7_8.ext
      replace o0_1 := o0_1.ext hn7_8.ext
      have o7_8 := hn7_8.own
      refine Reg.op0 rfl rfl rfl (Does.stn ag58 rfl rfl ((fndR_seven hfd).2) ((fndR_seven hfd).1) o7_8 (by simp)) ?_
      rintro _ H7_9 hu7_9
      have z7_9 := hu7_9.size
      first | replace hL := hL.upw hu7_9 (by omega) | skip
      replace hM := hM.upw hu7_9 (by omega)
      replace hmo := hmo.upw hu7_9 (by omega)
      replace o0_0 := o0_0.upw hu7_9 (by omega)
      replace o0_1 := o0_1.upw hu7_9 (by omega)
      replace o7_8 := hu7_9.own
      first | rw [over (by first | rfl | (simp; done))] at o7_8 | skip
      refine Reg.pur rfl rfl rfl rfl (Pur.asg rfl) ?_
      refine Reg.nil ?_
      obtain ⟨e0, e1, e2, e3, e4, e5, e6, rfl⟩ := sevn (fndR_seven hfd).1
      refine At.region rfl rfl ?_
      refine Reg.pur rfl rfl rfl rfl (Pur.mv rfl) ?_
      refine Reg.pur rfl rfl rfl rfl (Pur.not rfl) ?_
      refine Reg.nil ?_
      refine At.cond rfl rfl (fun q92 => ?_) (fun q92 => ?_)
      · first | (simp only [decide_eq_true_eq, decide_eq_false_iff_not, Bool.not_eq_true', Bool.not_eq_false', ne_eq, Decidable.not_not, Bool.not_eq_true, Bool.not_eq_false] at q92) | (dsimp only at q92) | skip
        have hfn : findN en (x.getD 8 0) = .nil := by rcases hfd with ⟨h, _⟩ | ⟨_, h, _⟩; exact h; simp_all
        refine At.region rfl rfl ?_
        refine Reg.pur rfl rfl rfl rfl (Pur.mv rfl) ?_

        refine Reg.op rfl rfl rfl rfl (Does.call rfl (endR_ok hM 5 0)) ?_
        rintro _ H9_1 ⟨hM1, hbut9_1⟩
        have z9_1 := hbut9_1.lt
        first | replace hL := hL.via hbut9_1 (by first | omega | (intro g; omega) | (intro g hg; omega) | (intro g hg h; omega)) | skip
        replace o0_0 := o0_0.via hbut9_1 (by first | omega | (intro g; omega) | (intro g hg; omega) | (intro g hg h; omega))
        replace o0_1 := o0_1.via hbut9_1 (by first | omega | (intro g; omega) | (intro g hg; omega) | (intro g hg h; omega))
        replace o7_8 := o7_8.via hbut9_1 (by first | omega | (intro g; omega) | (intro g hg; omega) | (intro g hg h; omega))
        have hmo := hM1.own
        have z_hmo := hmo.lt
        have z_hM1 := hM1.lt
        refine Reg.nil ?_
        refine At.drawE ((Bks.cons hmo.blk Bks.nil)) [19] mixed rfl rfl ?_
        refine RegD.tpur (i := 0) rfl rfl rfl rfl (by kernel_rfl) (Pur.mv rfl) ?_
        refine RegD.tpur (i := 1) rfl rfl rfl rfl (by kernel_rfl) (Pur.mv rfl) ?_
        refine RegD.tpur (i := 2) rfl rfl rfl rfl (by kernel_rfl) (Pur.nilc rfl) ?_
        refine RegD.tpur (i := 3) rfl rfl rfl rfl (by kernel_rfl) (Pur.fld _ fo60_5 rfl) ?_
        refine RegD.tpur (i := 4) rfl rfl rfl rfl (by kernel_rfl) (Pur.fld _ fo58_1 rfl) ?_
        refine RegD.takeT (i := 5) rfl rfl rfl rfl (by kernel_rfl) (Bks.cons hmo.blk Bks.nil) (fun H hS => Lod.ld sc3 rfl hS.hd rfl) ?_
        refine RegD.tpur (i := 6) rfl rfl rfl rfl (by kernel_rfl) (Pur.mv rfl) ?_
        refine RegD.tpur (i := 7) rfl rfl rfl rfl (by kernel_rfl) (Pur.nilc rfl) ?_
        refine RegD.tpur (i := 8) rfl rfl rfl rfl (by kernel_rfl) (Pur.fld _ fo60_5 rfl) ?_
        refine RegD.tpur (i := 9) rfl rfl rfl rfl (by kernel_rfl) (Pur.fld _ fo58_5 rfl) ?_
        refine RegD.takeT (i := 10) rfl rfl rfl rfl (by kernel_rfl) (Bks.cons hmo.blk Bks.nil) (fun H hS => Lod.ld sc56 rfl hS.hd rfl) ?_
        refine RegD.tpur (i := 11) rfl rfl rfl rfl (by kernel_rfl) (Pur.mv rfl) ?_
        refine RegD.tpur (i := 12) rfl rfl rfl rfl (by kernel_rfl) (Pur.nilc rfl) ?_
        refine RegD.tpur (i := 13) rfl rfl rfl rfl (by kernel_rfl) (Pur.fld _ fo60_5 rfl) ?_
        refine RegD.tpur (i := 14) rfl rfl rfl rfl (by kernel_rfl) (Pur.fld _ fo58_6 rfl) ?_
        refine RegD.takeT (i := 15) rfl rfl rfl rfl (by kernel_rfl) (Bks.cons hmo.blk Bks.nil) (fun H hS => Lod.ld sc56 rfl hS.hd rfl) ?_
        refine RegD.tpur (i := 16) rfl rfl rfl rfl (by kernel_rfl) (Pur.bld (cs := [_, _, _, _, _, _, _]) pl58 zc58 rfl rfl ⟨rfl, rfl, rfl, rfl, rfl, rfl, rfl, rfl⟩) ?_
        refine RegD.one (i := 17) (by kernel_rfl) rfl rfl rfl rfl (Does.box rfl rfl) ?_
        rintro _ H10_17 ⟨rfl, hn10_17⟩
        have z10_17 := hn10_17.size
        first | replace hL := hL.ext hn10_17.ext | skip
        replace o0_0 := o0_0.ext hn10_17.ext
        replace o0_1 := o0_1.ext hn10_17.ext
        replace o7_8 := o7_8.ext hn10_17.ext
        replace hmo := hmo.ext hn10_17.ext
        replace hM1 := hM1.ext hn10_17.ext
        have o10_17 := hn10_17.own
        refine ⟨fun _ _ => (Bks.cons hmo.blk Bks.nil), ?_⟩
        refine RegD.tpur (i := 18) rfl rfl rfl rfl (by kernel_rfl) (Pur.bld (cs := [_, _, _, _, _, _, _]) pl58 zc58 rfl rfl ⟨rfl, rfl, rfl, rfl, rfl, rfl, rfl, rfl⟩) ?_
        have hgv := givesR_ok hM1 (vc' := [I 6, I vn, I 0, nilp, nils, ptr b1 0, ptr H9_1.size 0]) rfl rfl

        refine RegD.one (i := 19) (by kernel_rfl) rfl rfl rfl rfl (Does.call rfl (hgv)) ?_
        rintro _ H10_19 ⟨hM3, hbut10_19⟩
        have z10_19 := hbut10_19.lt
        first | replace hL := hL.via hbut10_19 (by first | omega | (intro g; omega) | (intro g hg; omega) | (intro g hg h; omega)) | skip
        replace o0_0 := o0_0.via hbut10_19 (by first | omega | (intro g; omega) | (intro g hg; omega) | (intro g hg h; omega))
        replace o0_1 := o0_1.via hbut10_19 (by first | omega | (intro g; omega) | (intro g hg; omega) | (intro g hg h; omega))
        replace o7_8 := o7_8.via hbut10_19 (by first | omega | (intro g; omega) | (intro g hg; omega) | (intro g hg h; omega))
        replace o10_17 := o10_17.via hbut10_19 (by first | omega | (intro g; omega) | (intro g hg; omega) | (intro g hg h; omega))
        refine ⟨fun h => (by cases h), ?_⟩
        refine RegD.done (by kernel_rfl) ?_
        refine At.fall rfl Try.func59 rfl ?_
        rw [case_off hno hfn]
        exact AfterR.fin hM3 hL hl
      first | (simp only [decide_eq_true_eq, decide_eq_false_iff_not, Bool.not_eq_true', Bool.not_eq_false', ne_eq, Decidable.not_not, Bool.not_eq_true, Bool.not_eq_false] at q92) | (dsimp only at q92) | skip
      refine At.drawE ((Bks.cons hmo.blk Bks.nil)) [19] mixed rfl rfl ?_
      refine RegD.tpur (i := 0) rfl rfl rfl rfl (by kernel_rfl) (Pur.mv rfl) ?_
      refine RegD.tpur (i := 1) rfl rfl rfl rfl (by kernel_rfl) (Pur.mv rfl) ?_
      refine RegD.tpur (i := 2) rfl rfl rfl rfl (by kernel_rfl) (Pur.nilc rfl) ?_
      refine RegD.tpur (i := 3) rfl rfl rfl rfl (by kernel_rfl) (Pur.fld _ fo60_5 rfl) ?_
      refine RegD.tpur (i := 4) rfl rfl rfl rfl (by kernel_rfl) (Pur.fld _ fo58_1 rfl) ?_
      refine RegD.takeT (i := 5) rfl rfl rfl rfl (by kernel_rfl) (Bks.cons hmo.blk Bks.nil) (fun H hS => Lod.ld sc3 rfl hS.hd rfl) ?_
      refine RegD.tpur (i := 6) rfl rfl rfl rfl (by kernel_rfl) (Pur.mv rfl) ?_
      refine RegD.tpur (i := 7) rfl rfl rfl rfl (by kernel_rfl) (Pur.nilc rfl) ?_
      refine RegD.tpur (i := 8) rfl rfl rfl rfl (by kernel_rfl) (Pur.fld _ fo60_5 rfl) ?_
      refine RegD.tpur (i := 9) rfl rfl rfl rfl (by kernel_rfl) (Pur.fld _ fo58_5 rfl) ?_
      refine RegD.takeT (i := 10) rfl rfl rfl rfl (by kernel_rfl) (Bks.cons hmo.blk Bks.nil) (fun H hS => Lod.ld sc56 rfl hS.hd rfl) ?_
      refine RegD.tpur (i := 11) rfl rfl rfl rfl (by kernel_rfl) (Pur.mv rfl) ?_
      refine RegD.tpur (i := 12) rfl rfl rfl rfl (by kernel_rfl) (Pur.nilc rfl) ?_
      refine RegD.tpur (i := 13) rfl rfl rfl rfl (by kernel_rfl) (Pur.fld _ fo60_5 rfl) ?_
      refine RegD.tpur (i := 14) rfl rfl rfl rfl (by kernel_rfl) (Pur.fld _ fo58_6 rfl) ?_
      refine RegD.takeT (i := 15) rfl rfl rfl rfl (by kernel_rfl) (Bks.cons hmo.blk Bks.nil) (fun H hS => Lod.ld sc56 rfl hS.hd rfl) ?_
      refine RegD.tpur (i := 16) rfl rfl rfl rfl (by kernel_rfl) (Pur.bld (cs := [_, _, _, _, _, _, _]) pl58 zc58 rfl rfl ⟨rfl, rfl, rfl, rfl, rfl, rfl, rfl, rfl⟩) ?_
      refine RegD.one (i := 17) (by kernel_rfl) rfl rfl rfl rfl (Does.box rfl rfl) ?_
      rintro _ H10_17 ⟨rfl, hn10_17⟩
      have z10_17 := hn10_17.size
      first | replace hL := hL.ext hn10_17.ext | skip
      replace hM := hM.ext hn10_17.ext
      replace hmo := hmo.ext hn10_17.ext
      replace o0_0 := o0_0.ext hn10_17.ext
      replace o0_1 := o0_1.ext hn10_17.ext
      replace o7_8 := o7_8.ext hn10_17.ext
      have o10_17 := hn10_17.own
      refine ⟨fun _ _ => (Bks.cons hmo.blk Bks.nil), ?_⟩
      refine RegD.tpur (i := 18) rfl rfl rfl rfl (by kernel_rfl) (Pur.bld (cs := [_, _, _, _, _, _, _]) pl58 zc58 rfl rfl ⟨rfl, rfl, rfl, rfl, rfl, rfl, rfl, rfl⟩) ?_
      have hfo : findN en (x.getD 8 0) ≠ .nil ∧ rqV G (findN en (x.getD 8 0)) [e0, e1, e2, e3, e4, e5, e6] := by rcases hfd with ⟨_, h, _⟩ | ⟨h1, _, h⟩; simp_all; exact ⟨h1, h⟩
      have hMa := hM.add o7_8.blk (by omega)
      have hle := gset_le (b := H7_4.size) (c := [e0, e1, e2, e3, e4, e5, e6]) hM.fz (by omega)
      have hMb := hMa.add o10_17.blk (by omega)
      have hle2 := gset_le (b := H7_9.size) (c := [I 8, I 0, I 0, nilp, nils, ptr H7_4.size 0, ptr b2 0]) hMa.fz (by omega)
      have hgv := givesR_ok hMb (vc' := [I 6, I vn, I 0, nilp, nils, ptr b1 0, ptr H7_9.size 0]) rfl rfl

      refine RegD.one (i := 19) (by kernel_rfl) rfl rfl rfl rfl (Does.call rfl (hgv)) ?_
      rintro _ H10_19 ⟨hM3, hbut10_19⟩
      have z10_19 := hbut10_19.lt
      first | replace hL := hL.via hbut10_19 (by first | omega | (intro g; omega) | (intro g hg; omega) | (intro g hg h; omega)) | skip
      replace o0_0 := o0_0.via hbut10_19 (by first | omega | (intro g; omega) | (intro g hg; omega) | (intro g hg h; omega))
      replace o0_1 := o0_1.via hbut10_19 (by first | omega | (intro g; omega) | (intro g hg; omega) | (intro g hg h; omega))
      replace o7_8 := o7_8.via hbut10_19 (by first | omega | (intro g; omega) | (intro g hg; omega) | (intro g hg h; omega))
      replace o10_17 := o10_17.via hbut10_19 (by first | omega | (intro g; omega) | (intro g hg; omega) | (intro g hg h; omega))
      refine ⟨fun h => (by cases h), ?_⟩
      refine RegD.done (by kernel_rfl) ?_
      refine At.fall rfl Try.func59 rfl ?_
      rw [case_up hno hfo.1]
      refine AfterR.gv hM3 hL ?_
      simp only [rqV]
      exact ⟨b1, d1, _, _, rfl, hle2 _ _ (hle _ _ hG1), rqV_mono (hle.trans hle2) _ _ hone, gset_at _ _ _, b2, d2, _, _, rfl, hle2 _ _ (hle _ _ hG2), rqV_mono (hle.trans hle2) _ _ htwo, hle2 _ _ (gset_at _ _ _), rqV_mono (hle.trans hle2) _ _ hfo.2⟩
    first | (simp only [decide_eq_true_eq, decide_eq_false_iff_not, Bool.not_eq_true', Bool.not_eq_false', ne_eq, Decidable.not_not, Bool.not_eq_true, Bool.not_eq_false] at q76) | (dsimp only at q76) | skip
    refine At.region rfl rfl ?_
    refine Reg.pur rfl rfl rfl rfl (Pur.mv rfl) ?_

    refine Reg.op rfl rfl rfl rfl (Does.call rfl (endR_ok hM 5 0)) ?_
    rintro _ H1_1 ⟨hM1, hbut1_1⟩
    have z1_1 := hbut1_1.lt
    first | replace hL := hL.via hbut1_1 (by first | omega | (intro g; omega) | (intro g hg; omega) | (intro g hg h; omega)) | skip
    replace o0_0 := o0_0.via hbut1_1 (by first | omega | (intro g; omega) | (intro g hg; omega) | (intro g hg h; omega))
    replace o0_1 := o0_1.via hbut1_1 (by first | omega | (intro g; omega) | (intro g hg; omega) | (intro g hg h; omega))
    refine Reg.nil ?_
    refine At.fall rfl Try.func59 rfl ?_
    rw [caseMR_no q10 q76]
    exact AfterR.fin hM1 hL hl
  first | (simp only [decide_eq_true_eq, decide_eq_false_iff_not, Bool.not_eq_true', Bool.not_eq_false', ne_eq, Decidable.not_not, Bool.not_eq_true, Bool.not_eq_false] at q40) | (dsimp only at q40) | skip
  refine RegD.skip (i := 7) rfl rfl rfl rfl rfl rfl rfl (by kernel_rfl) ?_
  refine RegD.skip (i := 8) rfl rfl rfl rfl rfl rfl rfl (by kernel_rfl) ?_
  refine RegD.skip (i := 9) rfl rfl rfl rfl rfl rfl rfl (by kernel_rfl) ?_
  refine RegD.skip (i := 10) rfl rfl rfl rfl rfl rfl rfl (by kernel_rfl) ?_
  refine RegD.skip (i := 11) rfl rfl rfl rfl rfl rfl rfl (by kernel_rfl) ?_
  refine RegD.skip (i := 12) rfl rfl rfl rfl rfl rfl rfl (by kernel_rfl) ?_
  refine RegD.skip (i := 13) rfl rfl rfl rfl rfl rfl rfl (by kernel_rfl) ?_
  refine RegD.skip (i := 14) rfl rfl rfl rfl rfl rfl rfl (by kernel_rfl) ?_
  refine RegD.tpur (i := 15) rfl rfl rfl rfl (by kernel_rfl) (Pur.pickF rfl rfl) ?_
  refine RegD.tpur (i := 16) rfl rfl rfl rfl (by kernel_rfl) (Pur.asg rfl) ?_
  refine RegD.done (by kernel_rfl) ?_
  refine At.condF rfl rfl rfl ?_
  refine At.region rfl rfl ?_
  refine Reg.pur rfl rfl rfl rfl (Pur.mv rfl) ?_
  refine Reg.pur rfl rfl rfl rfl (Pur.nilc rfl) ?_
  refine Reg.pur rfl rfl rfl rfl (Pur.fld _ fo60_5 rfl) ?_
  refine Reg.pur rfl rfl rfl rfl (Pur.fld _ fo58_0 rfl) ?_
  refine Reg.lod rfl rfl rfl rfl (Lod.ld sc3 rfl hmo.blk rfl) ?_
  refine Reg.pur rfl rfl rfl rfl (Pur.eql rfl rfl) ?_
  refine Reg.pur rfl rfl rfl rfl (Pur.asg rfl) ?_
  refine Reg.nil ?_
  refine At.cond rfl rfl (fun q76 => ?_) (fun q76 => ?_)
  · first | (simp only [decide_eq_true_eq, decide_eq_false_iff_not, Bool.not_eq_true', Bool.not_eq_false', ne_eq, Decidable.not_not, Bool.not_eq_true, Bool.not_eq_false] at q76) | (dsimp only at q76) | skip
    obtain ⟨one, two, b1, d1, b2, d2, rfl, rfl, hG1, hone, rfl, hG2, htwo⟩ := rop_of hv q76
    have hno : vn ≠ x.getD 4 0 := by simp_all
    refine At.region rfl rfl ?_
    refine Reg.pur rfl rfl rfl rfl (Pur.fld _ fo76_2 rfl) ?_
    refine Reg.lod rfl rfl rfl rfl (Lod.ld sc55 rfl o0_0.blk (by first | rfl | (simp; done))) ?_
    refine Reg.pur rfl rfl rfl rfl (Pur.fld _ fo37_8 rfl) ?_
    refine Reg.lod rfl rfl rfl rfl (Lod.ld sc3 rfl o0_1.blk (hat 8 (by decide))) ?_
    refine Reg.op rfl rfl rfl rfl (Does.call rfl (findR_ok hM.fz.st _ en _ hen)) ?_
    rintro _ H7_4 ⟨fc, fb, rfl, hfd, hE7_4⟩
    have z7_4 := hE7_4.lt
    first | replace hL := hL.ext hE7_4 | skip
    replace hM := hM.ext hE7_4
    replace hmo := hmo.ext hE7_4
    replace o0_0 := o0_0.ext hE7_4
    replace o0_1 := o0_1.ext hE7_4
    refine Reg.pur rfl rfl rfl rfl (Pur.mv rfl) ?_
    refine Reg.pur rfl rfl rfl rfl (Pur.ext rfl rfl) ?_
    refine Reg.pur rfl rfl rfl rfl (Pur.ext rfl rfl) ?_
    refine Reg.op rfl rfl rfl rfl (Does.alloc zc58) ?_
    rintro _ H7_8 ⟨rfl, hn7_8⟩
    have z7_8 := hn7_8.size
    first | replace hL := hL.ext hn7_8.ext | skip
    replace hM := hM.ext hn7_8.ext
    replace hmo := hmo.ext hn7_8.ext
    replace o0_0 := o0_0.ext hn7_8.ext
    replace o0_1 := o0_1.ext hn7_8.ext
    have o7_8 := hn7_8.own
    refine Reg.op0 rfl rfl rfl (Does.stn ag58 rfl rfl ((fndR_seven hfd).2) ((fndR_seven hfd).1) o7_8 (by simp)) ?_
    rintro _ H7_9 hu7_9
    have z7_9 := hu7_9.size
    first | replace hL := hL.upw hu7_9 (by omega) | skip
    replace hM := hM.upw hu7_9 (by omega)
    replace hmo := hmo.upw hu7_9 (by omega)
    replace o0_0 := o0_0.upw hu7_9 (by omega)
    replace o0_1 := o0_1.upw hu7_9 (by omega)
    replace o7_8 := hu7_9.own
    first | rw [over (by first | rfl | (simp; done))] at o7_8 | skip
    refine Reg.pur rfl rfl rfl rfl (Pur.asg rfl) ?_
    refine Reg.nil ?_
    obtain ⟨e0, e1, e2, e3, e4, e5, e6, rfl⟩ := sevn (fndR_seven hfd).1
    refine At.region rfl rfl ?_
    refine Reg.pur rfl rfl rfl rfl (Pur.mv rfl) ?_
    refine Reg.pur rfl rfl rfl rfl (Pur.not rfl) ?_
    refine Reg.nil ?_
    refine At.cond rfl rfl (fun q92 => ?_) (fun q92 => ?_)
    · first | (simp only [decide_eq_true_eq, decide_eq_false_iff_not, Bool.not_eq_true', Bool.not_eq_false', ne_eq, Decidable.not_not, Bool.not_eq_true, Bool.not_eq_false] at q92) | (dsimp only at q92) | skip
      have hfn : findN en (x.getD 8 0) = .nil := by rcases hfd with ⟨h, _⟩ | ⟨_, h, _⟩; exact h; simp_all
      refine At.region rfl rfl ?_
      refine Reg.pur rfl rfl rfl rfl (Pur.mv rfl) ?_

      refine Reg.op rfl rfl rfl rfl (Does.call rfl (endR_ok hM 5 0)) ?_
      rintro _ H9_1 ⟨hM1, hbut9_1⟩
      have z9_1 := hbut9_1.lt
      first | replace hL := hL.via hbut9_1 (by first | omega | (intro g; omega) | (intro g hg; omega) | (intro g hg h; omega)) | skip
      replace o0_0 := o0_0.via hbut9_1 (by first | omega | (intro g; omega) | (intro g hg; omega) | (intro g hg h; omega))
      replace o0_1 := o0_1.via hbut9_1 (by first | omega | (intro g; omega) | (intro g hg; omega) | (intro g hg h; omega))
      replace o7_8 := o7_8.via hbut9_1 (by first | omega | (intro g; omega) | (intro g hg; omega) | (intro g hg h; omega))
      have hmo := hM1.own
      have z_hmo := hmo.lt
      have z_hM1 := hM1.lt
      refine Reg.nil ?_
      refine At.drawE ((Bks.cons hmo.blk Bks.nil)) [19] mixed rfl rfl ?_
      refine RegD.tpur (i := 0) rfl rfl rfl rfl (by kernel_rfl) (Pur.mv rfl) ?_
      refine RegD.tpur (i := 1) rfl rfl rfl rfl (by kernel_rfl) (Pur.mv rfl) ?_
      refine RegD.tpur (i := 2) rfl rfl rfl rfl (by kernel_rfl) (Pur.nilc rfl) ?_
      refine RegD.tpur (i := 3) rfl rfl rfl rfl (by kernel_rfl) (Pur.fld _ fo60_5 rfl) ?_
      refine RegD.tpur (i := 4) rfl rfl rfl rfl (by kernel_rfl) (Pur.fld _ fo58_1 rfl) ?_
      refine RegD.takeT (i := 5) rfl rfl rfl rfl (by kernel_rfl) (Bks.cons hmo.blk Bks.nil) (fun H hS => Lod.ld sc3 rfl hS.hd rfl) ?_
      refine RegD.tpur (i := 6) rfl rfl rfl rfl (by kernel_rfl) (Pur.mv rfl) ?_
      refine RegD.tpur (i := 7) rfl rfl rfl rfl (by kernel_rfl) (Pur.nilc rfl) ?_
      refine RegD.tpur (i := 8) rfl rfl rfl rfl (by kernel_rfl) (Pur.fld _ fo60_5 rfl) ?_
      refine RegD.tpur (i := 9) rfl rfl rfl rfl (by kernel_rfl) (Pur.fld _ fo58_5 rfl) ?_
      refine RegD.takeT (i := 10) rfl rfl rfl rfl (by kernel_rfl) (Bks.cons hmo.blk Bks.nil) (fun H hS => Lod.ld sc56 rfl hS.hd rfl) ?_
      refine RegD.tpur (i := 11) rfl rfl rfl rfl (by kernel_rfl) (Pur.mv rfl) ?_
      refine RegD.tpur (i := 12) rfl rfl rfl rfl (by kernel_rfl) (Pur.nilc rfl) ?_
      refine RegD.tpur (i := 13) rfl rfl rfl rfl (by kernel_rfl) (Pur.fld _ fo60_5 rfl) ?_
      refine RegD.tpur (i := 14) rfl rfl rfl rfl (by kernel_rfl) (Pur.fld _ fo58_6 rfl) ?_
      refine RegD.takeT (i := 15) rfl rfl rfl rfl (by kernel_rfl) (Bks.cons hmo.blk Bks.nil) (fun H hS => Lod.ld sc56 rfl hS.hd rfl) ?_
      refine RegD.tpur (i := 16) rfl rfl rfl rfl (by kernel_rfl) (Pur.bld (cs := [_, _, _, _, _, _, _]) pl58 zc58 rfl rfl ⟨rfl, rfl, rfl, rfl, rfl, rfl, rfl, rfl⟩) ?_
      refine RegD.one (i := 17) (by kernel_rfl) rfl rfl rfl rfl (Does.box rfl rfl) ?_
      rintro _ H10_17 ⟨rfl, hn10_17⟩
      have z10_17 := hn10_17.size
      first | replace hL := hL.ext hn10_17.ext | skip
      replace o0_0 := o0_0.ext hn10_17.ext
      replace o0_1 := o0_1.ext hn10_17.ext
      replace o7_8 := o7_8.ext hn10_17.ext
      replace hmo := hmo.ext hn10_17.ext
      replace hM1 := hM1.ext hn10_17.ext
      have o10_17 := hn10_17.own
      refine ⟨fun _ _ => (Bks.cons hmo.blk Bks.nil), ?_⟩
      refine RegD.tpur (i := 18) rfl rfl rfl rfl (by kernel_rfl) (Pur.bld (cs := [_, _, _, _, _, _, _]) pl58 zc58 rfl rfl ⟨rfl, rfl, rfl, rfl, rfl, rfl, rfl, rfl⟩) ?_
      have hgv := givesR_ok hM1 (vc' := [I 6, I vn, I 0, nilp, nils, ptr b1 0, ptr H9_1.size 0]) rfl rfl

      refine RegD.one (i := 19) (by kernel_rfl) rfl rfl rfl rfl (Does.call rfl (hgv)) ?_
      rintro _ H10_19 ⟨hM3, hbut10_19⟩
      have z10_19 := hbut10_19.lt
      first | replace hL := hL.via hbut10_19 (by first | omega | (intro g; omega) | (intro g hg; omega) | (intro g hg h; omega)) | skip
      replace o0_0 := o0_0.via hbut10_19 (by first | omega | (intro g; omega) | (intro g hg; omega) | (intro g hg h; omega))
      replace o0_1 := o0_1.via hbut10_19 (by first | omega | (intro g; omega) | (intro g hg; omega) | (intro g hg h; omega))
      replace o7_8 := o7_8.via hbut10_19 (by first | omega | (intro g; omega) | (intro g hg; omega) | (intro g hg h; omega))
      replace o10_17 := o10_17.via hbut10_19 (by first | omega | (intro g; omega) | (intro g hg; omega) | (intro g hg h; omega))
      refine ⟨fun h => (by cases h), ?_⟩
      refine RegD.done (by kernel_rfl) ?_
      refine At.fall rfl Try.func59 rfl ?_
      rw [case_off hno hfn]
      exact AfterR.fin hM3 hL hl
    first | (simp only [decide_eq_true_eq, decide_eq_false_iff_not, Bool.not_eq_true', Bool.not_eq_false', ne_eq, Decidable.not_not, Bool.not_eq_true, Bool.not_eq_false] at q92) | (dsimp only at q92) | skip
    refine At.drawE ((Bks.cons hmo.blk Bks.nil)) [19] mixed rfl rfl ?_
    refine RegD.tpur (i := 0) rfl rfl rfl rfl (by kernel_rfl) (Pur.mv rfl) ?_
    refine RegD.tpur (i := 1) rfl rfl rfl rfl (by kernel_rfl) (Pur.mv rfl) ?_
    refine RegD.tpur (i := 2) rfl rfl rfl rfl (by kernel_rfl) (Pur.nilc rfl) ?_
    refine RegD.tpur (i := 3) rfl rfl rfl rfl (by kernel_rfl) (Pur.fld _ fo60_5 rfl) ?_
    refine RegD.tpur (i := 4) rfl rfl rfl rfl (by kernel_rfl) (Pur.fld _ fo58_1 rfl) ?_
    refine RegD.takeT (i := 5) rfl rfl rfl rfl (by kernel_rfl) (Bks.cons hmo.blk Bks.nil) (fun H hS => Lod.ld sc3 rfl hS.hd rfl) ?_
    refine RegD.tpur (i := 6) rfl rfl rfl rfl (by kernel_rfl) (Pur.mv rfl) ?_
    refine RegD.tpur (i := 7) rfl rfl rfl rfl (by kernel_rfl) (Pur.nilc rfl) ?_
    refine RegD.tpur (i := 8) rfl rfl rfl rfl (by kernel_rfl) (Pur.fld _ fo60_5 rfl) ?_
    refine RegD.tpur (i := 9) rfl rfl rfl rfl (by kernel_rfl) (Pur.fld _ fo58_5 rfl) ?_
    refine RegD.takeT (i := 10) rfl rfl rfl rfl (by kernel_rfl) (Bks.cons hmo.blk Bks.nil) (fun H hS => Lod.ld sc56 rfl hS.hd rfl) ?_
    refine RegD.tpur (i := 11) rfl rfl rfl rfl (by kernel_rfl) (Pur.mv rfl) ?_
    refine RegD.tpur (i := 12) rfl rfl rfl rfl (by kernel_rfl) (Pur.nilc rfl) ?_
    refine RegD.tpur (i := 13) rfl rfl rfl rfl (by kernel_rfl) (Pur.fld _ fo60_5 rfl) ?_
    refine RegD.tpur (i := 14) rfl rfl rfl rfl (by kernel_rfl) (Pur.fld _ fo58_6 rfl) ?_
    refine RegD.takeT (i := 15) rfl rfl rfl rfl (by kernel_rfl) (Bks.cons hmo.blk Bks.nil) (fun H hS => Lod.ld sc56 rfl hS.hd rfl) ?_
    refine RegD.tpur (i := 16) rfl rfl rfl rfl (by kernel_rfl) (Pur.bld (cs := [_, _, _, _, _, _, _]) pl58 zc58 rfl rfl ⟨rfl, rfl, rfl, rfl, rfl, rfl, rfl, rfl⟩) ?_
    refine RegD.one (i := 17) (by kernel_rfl) rfl rfl rfl rfl (Does.box rfl rfl) ?_
    rintro _ H10_17 ⟨rfl, hn10_17⟩
    have z10_17 := hn10_17.size
    first | replace hL := hL.ext hn10_17.ext | skip
    replace hM := hM.ext hn10_17.ext
    replace hmo := hmo.ext hn10_17.ext
    replace o0_0 := o0_0.ext hn10_17.ext
    replace o0_1 := o0_1.ext hn10_17.ext
    replace o7_8 := o7_8.ext hn10_17.ext
    have o10_17 := hn10_17.own
    refine ⟨fun _ _ => (Bks.cons hmo.blk Bks.nil), ?_⟩
    refine RegD.tpur (i := 18) rfl rfl rfl rfl (by kernel_rfl) (Pur.bld (cs := [_, _, _, _, _, _, _]) pl58 zc58 rfl rfl ⟨rfl, rfl, rfl, rfl, rfl, rfl, rfl, rfl⟩) ?_
    have hfo : findN en (x.getD 8 0) ≠ .nil ∧ rqV G (findN en (x.getD 8 0)) [e0, e1, e2, e3, e4, e5, e6] := by rcases hfd with ⟨_, h, _⟩ | ⟨h1, _, h⟩; simp_all; exact ⟨h1, h⟩
    have hMa := hM.add o7_8.blk (by omega)
    have hle := gset_le (b := H7_4.size) (c := [e0, e1, e2, e3, e4, e5, e6]) hM.fz (by omega)
    have hMb := hMa.add o10_17.blk (by omega)
    have hle2 := gset_le (b := H7_9.size) (c := [I 8, I 0, I 0, nilp, nils, ptr H7_4.size 0, ptr b2 0]) hMa.fz (by omega)
    have hgv := givesR_ok hMb (vc' := [I 6, I vn, I 0, nilp, nils, ptr b1 0, ptr H7_9.size 0]) rfl rfl

    refine RegD.one (i := 19) (by kernel_rfl) rfl rfl rfl rfl (Does.call rfl (hgv)) ?_
    rintro _ H10_19 ⟨hM3, hbut10_19⟩
    have z10_19 := hbut10_19.lt
    first | replace hL := hL.via hbut10_19 (by first | omega | (intro g; omega) | (intro g hg; omega) | (intro g hg h; omega)) | skip
    replace o0_0 := o0_0.via hbut10_19 (by first | omega | (intro g; omega) | (intro g hg; omega) | (intro g hg h; omega))
    replace o0_1 := o0_1.via hbut10_19 (by first | omega | (intro g; omega) | (intro g hg; omega) | (intro g hg h; omega))
    replace o7_8 := o7_8.via hbut10_19 (by first | omega | (intro g; omega) | (intro g hg; omega) | (intro g hg h; omega))
    replace o10_17 := o10_17.via hbut10_19 (by first | omega | (intro g; omega) | (intro g hg; omega) | (intro g hg h; omega))
    refine ⟨fun h => (by cases h), ?_⟩
    refine RegD.done (by kernel_rfl) ?_
    refine At.fall rfl Try.func59 rfl ?_
    rw [case_up hno hfo.1]
    refine AfterR.gv hM3 hL ?_
    simp only [rqV]
    exact ⟨b1, d1, _, _, rfl, hle2 _ _ (hle _ _ hG1), rqV_mono (hle.trans hle2) _ _ hone, gset_at _ _ _, b2, d2, _, _, rfl, hle2 _ _ (hle _ _ hG2), rqV_mono (hle.trans hle2) _ _ htwo, hle2 _ _ (gset_at _ _ _), rqV_mono (hle.trans hle2) _ _ hfo.2⟩
  first | (simp only [decide_eq_true_eq, decide_eq_false_iff_not, Bool.not_eq_true', Bool.not_eq_false', ne_eq, Decidable.not_not, Bool.not_eq_true, Bool.not_eq_false] at q76) | (dsimp only at q76) | skip
  refine At.region rfl rfl ?_
  refine Reg.pur rfl rfl rfl rfl (Pur.mv rfl) ?_

  refine Reg.op rfl rfl rfl rfl (Does.call rfl (endR_ok hM 5 0)) ?_
  rintro _ H1_1 ⟨hM1, hbut1_1⟩
  have z1_1 := hbut1_1.lt
  first | replace hL := hL.via hbut1_1 (by first | omega | (intro g; omega) | (intro g hg; omega) | (intro g hg h; omega)) | skip
  replace o0_0 := o0_0.via hbut1_1 (by first | omega | (intro g; omega) | (intro g hg; omega) | (intro g hg h; omega))
  replace o0_1 := o0_1.via hbut1_1 (by first | omega | (intro g; omega) | (intro g hg; omega) | (intro g hg h; omega))
  refine Reg.nil ?_
  refine At.fall rfl Try.func59 rfl ?_
  rw [caseMR_no q10 q76]
  exact AfterR.fin hM1 hL hl
/-- a frame that goes, and a value -/
def RF (G : Gh) (L : List (List Int)) (f : Fr) (nd : Int) (p : Value) (hc : List Value) : Prop :=
  0 ≤ nd ∧ nd < L.length ∧ (f.wait ≠ 2 → nd = f.node) ∧ rqE G f.env p ∧ (f.wait ≠ 0 → rqV G f.had hc) ∧ hc.length = 7 ∧ ones hc = true
theorem fk_call {L : List (List Int)} {f : Fr} (hok : f.ok L) (h : fk L f = 1) : (f.wait = 1 ∧ (el L f.node).getD 0 0 = 5) ∨ f.wait = 2 := by
  unfold fk at h
  rcases hok with ⟨h0, _, hk, _⟩ | ⟨h1, _, hk, _⟩ | ⟨h2, _⟩
  · rw [if_pos h0] at h
    repeat' split at h
    all_goals omega
  · rw [if_neg (by omega), if_pos h1] at h
    repeat' split at h
    all_goals omega
  · exact .inr h2
theorem fk_first {L : List (List Int)} {f : Fr} (hok : f.ok L) (h : fk L f = 0 ∨ fk L f = 2 ∨ fk L f = 3 ∨ fk L f = 4 ∨ fk L f = 8 ∨ fk L f = 9 ∨ fk L f = 11 ∨ fk L f = 12) : f.wait = 0 ∧ fk L f = fkn ((el L f.node).getD 0 0) := by
  unfold fk at h ⊢
  rcases hok with ⟨h0, _, hk, _⟩ | ⟨h1, _, hk, _⟩ | ⟨h2, _⟩
  · exact ⟨h0, by rw [if_pos h0]; rfl⟩
  · rw [if_neg (by omega), if_pos h1] at h
    repeat' split at h
    all_goals omega
  · rw [if_neg (by omega), if_neg (by omega)] at h
    omega
theorem fk_second {L : List (List Int)} {f : Fr} (hok : f.ok L) : (fk L f = 5 → f.wait = 1 ∧ (el L f.node).getD 0 0 = 8) ∧ (fk L f = 10 → f.wait = 1 ∧ (el L f.node).getD 0 0 = 10) := by
  unfold fk
  rcases hok with ⟨h0, _, hk, _⟩ | ⟨h1, _, hk, _⟩ | ⟨h2, _⟩
  · rw [if_pos h0]
    repeat' split
    all_goals omega
  · rw [if_neg (by omega), if_pos h1]
    repeat' split
    all_goals omega
  · rw [if_neg (by omega), if_neg (by omega)]
    omega
theorem fkn_inv {k : Int} (h5 : 5 ≤ k) (h12 : k ≤ 12) : (fkn k = 0 → k = 5) ∧ (fkn k = 2 → k = 6) ∧ (fkn k = 3 → k = 7) ∧ (fkn k = 4 → k = 8) ∧ (fkn k = 8 → k = 9) ∧ (fkn k = 9 → k = 10) ∧ (fkn k = 11 → k = 11) ∧ (fkn k = 12 → k = 12) := by
  unfold fkn
  repeat' split
  all_goals omega
theorem fk_in {L : List (List Int)} {f : Fr} (hok : f.ok L) : fk L f = 0 ∨ fk L f = 1 ∨ fk L f = 2 ∨ fk L f = 3 ∨ fk L f = 4 ∨ fk L f = 5 ∨ fk L f = 8 ∨ fk L f = 9 ∨ fk L f = 10 ∨ fk L f = 11 ∨ fk L f = 12 := by
  unfold fk
  dsimp only
  repeat' split
  all_goals omega
theorem fst_of (hT : Tm L) {fw fi : Int} {fe fh : T} {k : Int} (hok : Fr.ok L ⟨fw, fi, fe, fh⟩) (hkk : fk L ⟨fw, fi, fe, fh⟩ = k) (h : k = 0 ∨ k = 2 ∨ k = 3 ∨ k = 4 ∨ k = 8 ∨ k = 9 ∨ k = 11 ∨ k = 12) :
    fw = 0 ∧ fkn ((el L fi).getD 0 0) = k ∧ 5 ≤ (el L fi).getD 0 0 ∧ (el L fi).getD 0 0 ≤ 12 := by
  obtain ⟨h0, h1⟩ := fk_first hok (by rw [hkk]; exact h)
  dsimp only at h0 h1
  have h2 := hok.resolve_right (by dsimp only; omega)
  exact ⟨h0, h1.symm.trans hkk, h2.2.2.1, (hT.kind h2.2.1.1 h2.2.1.2).2⟩
theorem rqF_sec {v : T} {c : List Value} {i k : Int} (hk : fk L ⟨1, i, .nil, v⟩ = k) (h : rqV G v c) (h0 : 0 ≤ i) (h1 : i < L.length) : rqF G L ⟨1, i, .nil, v⟩ (I k :: I i :: nilp :: c) :=
  ⟨i, nilp, c, by rw [hk], rqV_seven h, rqV_ones h, h0, h1, fun _ => rfl, by simp only [rqE], fun _ => h⟩
theorem prm_kind (k a b : Int) : ((prm k a b).1 = 3 ∧ ((prm k a b).2 = 0 ∨ (prm k a b).2 = 1)) ∨ (prm k a b).1 = 0 ∨ (prm k a b).1 = 1 := by
  by_cases h4 : k = 4
  · subst h4; exact .inr (.inr rfl)
  · by_cases h5 : k = 5
    · subst h5; exact .inr (.inr rfl)
    · by_cases h3 : k = 3 ∧ b = 0
      · obtain ⟨rfl, rfl⟩ := h3; exact .inl ⟨rfl, .inr rfl⟩
      · rw [prm_num h4 h5 h3]
        split
        · exact .inl ⟨rfl, .inl rfl⟩
        · exact .inr (.inl rfl)
theorem kd_kp {t : T} {c : List Value} (h : rqV G t c) : (kd t = 0 → kp t = 0) ∧ (kp t = 0 → kd t = 0) := by
  cases t <;> simp only [rqV] at h <;> simp [kd, kp]
theorem snd_noR {k : Int} {x : List Int} {hd v : T} {c c' : List Value} (h5 : k ≠ 5) (h10 : k ≠ 10) (hh : rqV G hd c) (hv : rqV G v c') (h : kd hd ≠ 0 ∨ kd v ≠ 0) : sndM L k x fr hd v = .fin 5 0 :=
  snd_no h5 h10 (h.imp (fun e e' => e ((kd_kp hh).2 e')) (fun e e' => e ((kd_kp hv).2 e')))
theorem Qs.add2 {H : Heap} {b1 b2 : Nat} {c1 c2 : List Value} (h : Qs L N m B G s H fr A cap ev nd' pe vc dn o1 o2) (hb1 : Blk H b1 c1) (hb2 : Blk H b2 c2) (h1 : s ≤ b1) (h2 : s ≤ b2) (hne : b1 ≠ b2) :
    ∃ G', Gle G G' ∧ G' b1 = some c1 ∧ G' b2 = some c2 ∧ Qs L N m B G' H.size H fr A cap ev nd' pe vc dn o1 o2 := by
  have z1 := hb1.lt
  have z2 := hb2.lt
  rcases Nat.lt_or_ge b1 b2 with hlt | hge
  · have ha := h.add hb1 h1
    have l1 := gset_le (c := c1) h.fz h1
    have hb := ha.add hb2 (by omega)
    have l2 := gset_le (c := c2) ha.fz (b := b2) (by omega)
    exact ⟨_, l1.trans l2, l2 _ _ (gset_at _ _ _), gset_at _ _ _, hb.re (by omega) (Nat.le_refl _)⟩
  · have ha := h.add hb2 h2
    have l1 := gset_le (c := c2) h.fz h2
    have hb := ha.add hb1 (by omega)
    have l2 := gset_le (c := c1) ha.fz (b := b1) (by omega)
    exact ⟨_, l1.trans l2, gset_at _ _ _, l2 _ _ (gset_at _ _ _), hb.re (by omega) (Nat.le_refl _)⟩
theorem backR_ok {H : Heap} (hT : Tm L) (hM : Qs L N m B G s H fr A cap false nd' pe vc false o1 o2) {f : Fr} (hok : f.ok L) {i : Int} {p : Value} {hc' : List Value} {v : T} (hR : RF G L f i p hc') (hv : rqV G v vc) (hvV : v.isV L) (hl : fr.length ≤ 4096) :
    Ret Try.prog 35 [ptr m 0, .agg (I (fk L f) :: I i :: p :: hc').toArray] H (fun _ H' => AfterR L N m B (ob A) H (backM L fr f v) H') := by
  obtain ⟨hi0, hi1, hni, hen, hhd, hc7, hc1⟩ := hR
  obtain ⟨vn, vi, vp, vq, vr, rfl⟩ := rqV_cells hv
  obtain ⟨a0, a1, a2, a3, a4, a5, a6, rfl⟩ := sevn hc7
  obtain ⟨Ap, rfl⟩ := rqE_one hen
  have hL := Chm.refl m (ob A) H
  have zM := hM.lt
  have hmo := hM.own
  obtain ⟨bn, on, capn, cn, rfl, hB, hbB, hcn, h9⟩ := hM.node hi0 hi1
  have hat : ∀ j, j < 9 → (Is (el L i))[0 + j]? = some (I ((el L i).getD j 0)) := fun j hj => by rw [Nat.zero_add]; exact at_Is (by omega)
  have h9' : (Is (el L i)).length = 9 := by rw [List.length_map]; exact h9
  have hin := fk_in hok
  obtain ⟨fw, fi, fe, fh⟩ := f
  dsimp only at hni hen hhd
  generalize hkk : fk L ⟨fw, fi, fe, fh⟩ = k at *
  refine Ret.of_at (N := 165) Try.call35 Try.func35 rfl rfl rfl ?_
  have hE := Ext.refl H
  have z_hL := hL.lt
  have z_hM := hM.lt
  have z_hmo := hmo.lt
  have z_hB := hB.lt
  refine At.region rfl rfl ?_
  refine Reg.op rfl rfl rfl rfl (Does.box rfl rfl) ?_
  rintro _ H0_0 ⟨rfl, hn0_0⟩
  have z0_0 := hn0_0.size
  first | replace hL := hL.ext hn0_0.ext | skip
  replace hM := hM.ext hn0_0.ext
  replace hmo := hmo.ext hn0_0.ext
  replace hB := hB.ext hn0_0.ext
  have o0_0 := hn0_0.own
  refine Reg.nil ?_
  refine At.drawE ((Bks.cons hmo.blk (Bks.cons o0_0.blk (Bks.cons hB.blk Bks.nil)))) [9] mixed rfl rfl ?_
  refine RegD.tpur (i := 0) rfl rfl rfl rfl (by kernel_rfl) (Pur.mv rfl) ?_
  refine RegD.tpur (i := 1) rfl rfl rfl rfl (by kernel_rfl) (Pur.nilc rfl) ?_
  refine RegD.tpur (i := 2) rfl rfl rfl rfl (by kernel_rfl) (Pur.fld _ fo60_0 rfl) ?_
  refine RegD.takeT (i := 3) rfl rfl rfl rfl (by kernel_rfl) (Bks.cons hmo.blk (Bks.cons o0_0.blk (Bks.cons hB.blk Bks.nil))) (fun H hS => Lod.ld sc22 rfl hS.hd rfl) ?_
  refine RegD.tpur (i := 4) rfl rfl rfl rfl (by kernel_rfl) (Pur.fld _ fo76_1 rfl) ?_
  refine RegD.takeT (i := 5) rfl rfl rfl rfl (by kernel_rfl) (Bks.cons hmo.blk (Bks.cons o0_0.blk (Bks.cons hB.blk Bks.nil))) (fun H hS => Lod.ld sc3 rfl hS.tl.hd rfl) ?_
  refine RegD.tpur (i := 6) rfl rfl rfl rfl (by kernel_rfl) (Pur.idx _ es22 rfl rfl (by omega) (by omega)) ?_
  refine RegD.takeT (i := 7) rfl rfl rfl rfl (by kernel_rfl) (Bks.cons hmo.blk (Bks.cons o0_0.blk (Bks.cons hB.blk Bks.nil))) (fun H hS => Lod.ldn ag37 rfl hS.tl.tl.hd hcn h9') ?_
  refine RegD.one (i := 8) (by kernel_rfl) rfl rfl rfl rfl (Does.alloc zc37) ?_
  rintro _ H1_8 ⟨rfl, hn1_8⟩
  have z1_8 := hn1_8.size
  first | replace hL := hL.ext hn1_8.ext | skip
  replace hM := hM.ext hn1_8.ext
  replace hmo := hmo.ext hn1_8.ext
  replace hB := hB.ext hn1_8.ext
  replace o0_0 := o0_0.ext hn1_8.ext
  have o1_8 := hn1_8.own
  refine ⟨fun _ _ => (Bks.cons hmo.blk (Bks.cons o0_0.blk (Bks.cons hB.blk Bks.nil))), ?_⟩
  refine RegD.one0 (i := 9) (by kernel_rfl) rfl rfl rfl (Does.stn ag37 rfl rfl (ones_Is _) h9' o1_8 (by simp)) ?_
  rintro _ H1_9 hu1_9
  have z1_9 := hu1_9.size
  first | replace hL := hL.upw hu1_9 (by omega) | skip
  replace hM := hM.upw hu1_9 (by omega)
  replace hmo := hmo.upw hu1_9 (by omega)
  replace hB := hB.upw hu1_9 (by omega)
  replace o0_0 := o0_0.upw hu1_9 (by omega)
  replace o1_8 := hu1_9.own
  first | rw [over (by first | rfl | (simp; done))] at o1_8 | skip
  refine ⟨fun h => (by cases h), ?_⟩
  refine RegD.done (by kernel_rfl) ?_
  refine At.region rfl rfl ?_
  refine Reg.pur rfl rfl rfl rfl (Pur.fld _ fo76_0 rfl) ?_
  refine Reg.lod rfl rfl rfl rfl (Lod.ld sc3 rfl o0_0.blk rfl) ?_
  refine Reg.nil ?_
  refine At.region rfl rfl ?_
  refine Reg.pur rfl rfl rfl rfl (Pur.eql rfl rfl) ?_
  refine Reg.pur rfl rfl rfl rfl (Pur.asg rfl) ?_
  refine Reg.nil ?_
  refine At.cond rfl rfl (fun q25 => ?_) (fun q25 => ?_)
  · first | (simp only [decide_eq_true_eq, decide_eq_false_iff_not, Bool.not_eq_true', Bool.not_eq_false', ne_eq, Decidable.not_not, Bool.not_eq_true, Bool.not_eq_false] at q25) | (dsimp only at q25) | skip
    refine At.condT rfl rfl (by first | exact q25 | exact decide_eq_true q25 | exact decide_eq_false q25 | simpa using q25) ?_
    refine At.region rfl rfl ?_
    refine Reg.pur rfl rfl rfl rfl (Pur.asg rfl) ?_
    refine Reg.nil ?_
    refine At.region rfl rfl ?_
    refine Reg.pur rfl rfl rfl rfl (Pur.fld _ fo76_0 rfl) ?_
    refine Reg.lod rfl rfl rfl rfl (Lod.ld sc3 rfl o0_0.blk rfl) ?_
    refine Reg.nil ?_
    refine At.region rfl rfl ?_
    refine Reg.pur rfl rfl rfl rfl (Pur.eql rfl rfl) ?_
    refine Reg.pur rfl rfl rfl rfl (Pur.asg rfl) ?_
    refine Reg.nil ?_
    refine At.cond rfl rfl (fun q31 => ?_) (fun q31 => ?_)
    · first | (simp only [decide_eq_true_eq, decide_eq_false_iff_not, Bool.not_eq_true', Bool.not_eq_false', ne_eq, Decidable.not_not, Bool.not_eq_true, Bool.not_eq_false] at q31) | (dsimp only at q31) | skip
      refine At.region rfl rfl ?_
      refine Reg.pur rfl rfl rfl rfl (Pur.asg rfl) ?_
      refine Reg.nil ?_
      obtain ⟨rfl, hfk, h5, h12⟩ := fst_of hT hok hkk (by omega)
      obtain rfl : i = fi := hni (by decide)
      have hinv := fkn_inv h5 h12
      refine At.drawE ((Bks.cons hmo.blk (Bks.cons o0_0.blk Bks.nil))) [8] mixed rfl rfl ?_
      refine RegD.tpur (i := 0) rfl rfl rfl rfl (by kernel_rfl) (Pur.mv rfl) ?_
      refine RegD.tpur (i := 1) rfl rfl rfl rfl (by kernel_rfl) (Pur.mv rfl) ?_
      refine RegD.tpur (i := 2) rfl rfl rfl rfl (by kernel_rfl) (Pur.fld _ fo76_1 rfl) ?_
      refine RegD.takeT (i := 3) rfl rfl rfl rfl (by kernel_rfl) (Bks.cons hmo.blk (Bks.cons o0_0.blk Bks.nil)) (fun H hS => Lod.ld sc3 rfl hS.tl.hd rfl) ?_
      refine RegD.tpur (i := 4) rfl rfl rfl rfl (by kernel_rfl) (Pur.mv rfl) ?_
      refine RegD.tpur (i := 5) rfl rfl rfl rfl (by kernel_rfl) (Pur.nilc rfl) ?_
      refine RegD.tpur (i := 6) rfl rfl rfl rfl (by kernel_rfl) (Pur.fld _ fo60_5 rfl) ?_
      refine RegD.takeT (i := 7) rfl rfl rfl rfl (by kernel_rfl) (Bks.cons hmo.blk (Bks.cons o0_0.blk Bks.nil)) (fun H hS => Lod.ldn ag58 rfl hS.hd rfl rfl) ?_
      have hkd : (el L i).getD 0 0 = 8 := hinv.2.2.2.1 (hfk.trans (by omega))
      have hps := pushR_ok hM (rqF_sec (k := 5) (show (if (el L i).getD 0 0 = 5 then (1 : Int) else if (el L i).getD 0 0 = 8 then 5 else 10) = 5 by rw [hkd]; rfl) hv hi0 hi1) (by omega)

      refine RegD.one (i := 8) (by kernel_rfl) rfl rfl rfl rfl (Does.call rfl (hps)) ?_
      rintro _ H13_8 ⟨A1, cap1, hM1, hbut13_8, hA1⟩
      have z13_8 := hbut13_8.lt
      first | replace hL := hL.via hbut13_8 (by first | omega | (intro g; omega) | (intro g hg; omega) | (intro g hg h; omega)) | skip
      replace hB := hB.via hbut13_8 (by first | omega | (intro g; omega) | (intro g hg; omega) | (intro g hg h; omega))
      replace o0_0 := o0_0.via hbut13_8 (by first | omega | (intro g; omega) | (intro g hg; omega) | (intro g hg h; omega))
      replace o1_8 := o1_8.via hbut13_8 (by first | omega | (intro g; omega) | (intro g hg; omega) | (intro g hg h; omega))
      refine ⟨fun h => (by cases h), ?_⟩
      refine RegD.done (by kernel_rfl) ?_
      have zM1 := hM1.lt
      refine At.region rfl rfl ?_
      refine Reg.pur rfl rfl rfl rfl (Pur.mv rfl) ?_
      refine Reg.pur rfl rfl rfl rfl (Pur.fld _ fo37_2 rfl) ?_
      refine Reg.lod rfl rfl rfl rfl (Lod.ld sc3 rfl o1_8.blk (hat 2 (by decide))) ?_
      refine Reg.pur rfl rfl rfl rfl (Pur.fld _ fo76_2 rfl) ?_
      refine Reg.lod rfl rfl rfl rfl (Lod.ld sc55 rfl o0_0.blk rfl) ?_
      refine Reg.op rfl rfl rfl rfl (Does.call rfl (goesR_ok hM1 _ _ (rqE_cell hen))) ?_
      rintro _ H14_5 ⟨hM2, hbut14_5⟩
      have z14_5 := hbut14_5.lt
      first | replace hL := hL.via hbut14_5 (by first | omega | (intro g; omega) | (intro g hg; omega) | (intro g hg h; omega)) | skip
      replace hB := hB.via hbut14_5 (by first | omega | (intro g; omega) | (intro g hg; omega) | (intro g hg h; omega))
      replace o0_0 := o0_0.via hbut14_5 (by first | omega | (intro g; omega) | (intro g hg; omega) | (intro g hg h; omega))
      replace o1_8 := o1_8.via hbut14_5 (by first | omega | (intro g; omega) | (intro g hg; omega) | (intro g hg h; omega))
      refine Reg.nil ?_
      refine At.fall rfl Try.func35 rfl ?_
      rw [show backM L fr ⟨0, i, fe, fh⟩ v = fstM ((el L i).getD 0 0) (el L i) i fr fe fh v from rfl, show fstM ((el L i).getD 0 0) (el L i) i fr fe fh v = _ from if_pos (by omega)]
      exact AfterR.ev hM2 hL hen
    first | (simp only [decide_eq_true_eq, decide_eq_false_iff_not, Bool.not_eq_true', Bool.not_eq_false', ne_eq, Decidable.not_not, Bool.not_eq_true, Bool.not_eq_false] at q31) | (dsimp only at q31) | skip
    refine At.region rfl rfl ?_
    refine Reg.pur rfl rfl rfl rfl (Pur.eql rfl rfl) ?_
    refine Reg.pur rfl rfl rfl rfl (Pur.asg rfl) ?_
    refine Reg.nil ?_
    refine At.cond rfl rfl (fun q33 => ?_) (fun q33 => ?_)
    · first | (simp only [decide_eq_true_eq, decide_eq_false_iff_not, Bool.not_eq_true', Bool.not_eq_false', ne_eq, Decidable.not_not, Bool.not_eq_true, Bool.not_eq_false] at q33) | (dsimp only at q33) | skip
      refine At.region rfl rfl ?_
      refine Reg.pur rfl rfl rfl rfl (Pur.asg rfl) ?_
      refine Reg.nil ?_
      obtain ⟨rfl, hfk, h5, h12⟩ := fst_of hT hok hkk (by omega)
      obtain rfl : i = fi := hni (by decide)
      have hinv := fkn_inv h5 h12
      refine At.drawE ((Bks.cons hmo.blk (Bks.cons o0_0.blk Bks.nil))) [8] mixed rfl rfl ?_
      refine RegD.tpur (i := 0) rfl rfl rfl rfl (by kernel_rfl) (Pur.mv rfl) ?_
      refine RegD.tpur (i := 1) rfl rfl rfl rfl (by kernel_rfl) (Pur.mv rfl) ?_
      refine RegD.tpur (i := 2) rfl rfl rfl rfl (by kernel_rfl) (Pur.fld _ fo76_1 rfl) ?_
      refine RegD.takeT (i := 3) rfl rfl rfl rfl (by kernel_rfl) (Bks.cons hmo.blk (Bks.cons o0_0.blk Bks.nil)) (fun H hS => Lod.ld sc3 rfl hS.tl.hd rfl) ?_
      refine RegD.tpur (i := 4) rfl rfl rfl rfl (by kernel_rfl) (Pur.mv rfl) ?_
      refine RegD.tpur (i := 5) rfl rfl rfl rfl (by kernel_rfl) (Pur.nilc rfl) ?_
      refine RegD.tpur (i := 6) rfl rfl rfl rfl (by kernel_rfl) (Pur.fld _ fo60_5 rfl) ?_
      refine RegD.takeT (i := 7) rfl rfl rfl rfl (by kernel_rfl) (Bks.cons hmo.blk (Bks.cons o0_0.blk Bks.nil)) (fun H hS => Lod.ldn ag58 rfl hS.hd rfl rfl) ?_
      have hkd : (el L i).getD 0 0 = 10 := hinv.2.2.2.2.2.1 (hfk.trans (by omega))
      have hps := pushR_ok hM (rqF_sec (k := 10) (show (if (el L i).getD 0 0 = 5 then (1 : Int) else if (el L i).getD 0 0 = 8 then 5 else 10) = 10 by rw [hkd]; rfl) hv hi0 hi1) (by omega)

      refine RegD.one (i := 8) (by kernel_rfl) rfl rfl rfl rfl (Does.call rfl (hps)) ?_
      rintro _ H13_8 ⟨A1, cap1, hM1, hbut13_8, hA1⟩
      have z13_8 := hbut13_8.lt
      first | replace hL := hL.via hbut13_8 (by first | omega | (intro g; omega) | (intro g hg; omega) | (intro g hg h; omega)) | skip
      replace hB := hB.via hbut13_8 (by first | omega | (intro g; omega) | (intro g hg; omega) | (intro g hg h; omega))
      replace o0_0 := o0_0.via hbut13_8 (by first | omega | (intro g; omega) | (intro g hg; omega) | (intro g hg h; omega))
      replace o1_8 := o1_8.via hbut13_8 (by first | omega | (intro g; omega) | (intro g hg; omega) | (intro g hg h; omega))
      refine ⟨fun h => (by cases h), ?_⟩
      refine RegD.done (by kernel_rfl) ?_
      have zM1 := hM1.lt
      refine At.region rfl rfl ?_
      refine Reg.pur rfl rfl rfl rfl (Pur.mv rfl) ?_
      refine Reg.pur rfl rfl rfl rfl (Pur.fld _ fo37_2 rfl) ?_
      refine Reg.lod rfl rfl rfl rfl (Lod.ld sc3 rfl o1_8.blk (hat 2 (by decide))) ?_
      refine Reg.pur rfl rfl rfl rfl (Pur.fld _ fo76_2 rfl) ?_
      refine Reg.lod rfl rfl rfl rfl (Lod.ld sc55 rfl o0_0.blk rfl) ?_
      refine Reg.op rfl rfl rfl rfl (Does.call rfl (goesR_ok hM1 _ _ (rqE_cell hen))) ?_
      rintro _ H14_5 ⟨hM2, hbut14_5⟩
      have z14_5 := hbut14_5.lt
      first | replace hL := hL.via hbut14_5 (by first | omega | (intro g; omega) | (intro g hg; omega) | (intro g hg h; omega)) | skip
      replace hB := hB.via hbut14_5 (by first | omega | (intro g; omega) | (intro g hg; omega) | (intro g hg h; omega))
      replace o0_0 := o0_0.via hbut14_5 (by first | omega | (intro g; omega) | (intro g hg; omega) | (intro g hg h; omega))
      replace o1_8 := o1_8.via hbut14_5 (by first | omega | (intro g; omega) | (intro g hg; omega) | (intro g hg h; omega))
      refine Reg.nil ?_
      refine At.fall rfl Try.func35 rfl ?_
      rw [show backM L fr ⟨0, i, fe, fh⟩ v = fstM ((el L i).getD 0 0) (el L i) i fr fe fh v from rfl, show fstM ((el L i).getD 0 0) (el L i) i fr fe fh v = _ from if_pos (by omega)]
      exact AfterR.ev hM2 hL hen
    first | (simp only [decide_eq_true_eq, decide_eq_false_iff_not, Bool.not_eq_true', Bool.not_eq_false', ne_eq, Decidable.not_not, Bool.not_eq_true, Bool.not_eq_false] at q33) | (dsimp only at q33) | skip
    obtain ⟨rfl, hfk, h5, h12⟩ := fst_of hT hok hkk (by omega)
    obtain rfl : i = fi := hni (by decide)
    have hinv := fkn_inv h5 h12
    refine At.drawE ((Bks.cons hmo.blk (Bks.cons o0_0.blk Bks.nil))) [8] mixed rfl rfl ?_
    refine RegD.tpur (i := 0) rfl rfl rfl rfl (by kernel_rfl) (Pur.mv rfl) ?_
    refine RegD.tpur (i := 1) rfl rfl rfl rfl (by kernel_rfl) (Pur.mv rfl) ?_
    refine RegD.tpur (i := 2) rfl rfl rfl rfl (by kernel_rfl) (Pur.fld _ fo76_1 rfl) ?_
    refine RegD.takeT (i := 3) rfl rfl rfl rfl (by kernel_rfl) (Bks.cons hmo.blk (Bks.cons o0_0.blk Bks.nil)) (fun H hS => Lod.ld sc3 rfl hS.tl.hd rfl) ?_
    refine RegD.tpur (i := 4) rfl rfl rfl rfl (by kernel_rfl) (Pur.mv rfl) ?_
    refine RegD.tpur (i := 5) rfl rfl rfl rfl (by kernel_rfl) (Pur.nilc rfl) ?_
    refine RegD.tpur (i := 6) rfl rfl rfl rfl (by kernel_rfl) (Pur.fld _ fo60_5 rfl) ?_
    refine RegD.takeT (i := 7) rfl rfl rfl rfl (by kernel_rfl) (Bks.cons hmo.blk (Bks.cons o0_0.blk Bks.nil)) (fun H hS => Lod.ldn ag58 rfl hS.hd rfl rfl) ?_
    have hkd : (el L i).getD 0 0 = 5 := hinv.1 (hfk.trans (by omega))
    have hps := pushR_ok hM (rqF_sec (k := 1) (show (if (el L i).getD 0 0 = 5 then (1 : Int) else if (el L i).getD 0 0 = 8 then 5 else 10) = 1 by rw [hkd]; rfl) hv hi0 hi1) (by omega)

    refine RegD.one (i := 8) (by kernel_rfl) rfl rfl rfl rfl (Does.call rfl (hps)) ?_
    rintro _ H13_8 ⟨A1, cap1, hM1, hbut13_8, hA1⟩
    have z13_8 := hbut13_8.lt
    first | replace hL := hL.via hbut13_8 (by first | omega | (intro g; omega) | (intro g hg; omega) | (intro g hg h; omega)) | skip
    replace hB := hB.via hbut13_8 (by first | omega | (intro g; omega) | (intro g hg; omega) | (intro g hg h; omega))
    replace o0_0 := o0_0.via hbut13_8 (by first | omega | (intro g; omega) | (intro g hg; omega) | (intro g hg h; omega))
    replace o1_8 := o1_8.via hbut13_8 (by first | omega | (intro g; omega) | (intro g hg; omega) | (intro g hg h; omega))
    refine ⟨fun h => (by cases h), ?_⟩
    refine RegD.done (by kernel_rfl) ?_
    have zM1 := hM1.lt
    refine At.region rfl rfl ?_
    refine Reg.pur rfl rfl rfl rfl (Pur.mv rfl) ?_
    refine Reg.pur rfl rfl rfl rfl (Pur.fld _ fo37_2 rfl) ?_
    refine Reg.lod rfl rfl rfl rfl (Lod.ld sc3 rfl o1_8.blk (hat 2 (by decide))) ?_
    refine Reg.pur rfl rfl rfl rfl (Pur.fld _ fo76_2 rfl) ?_
    refine Reg.lod rfl rfl rfl rfl (Lod.ld sc55 rfl o0_0.blk rfl) ?_
    refine Reg.op rfl rfl rfl rfl (Does.call rfl (goesR_ok hM1 _ _ (rqE_cell hen))) ?_
    rintro _ H14_5 ⟨hM2, hbut14_5⟩
    have z14_5 := hbut14_5.lt
    first | replace hL := hL.via hbut14_5 (by first | omega | (intro g; omega) | (intro g hg; omega) | (intro g hg h; omega)) | skip
    replace hB := hB.via hbut14_5 (by first | omega | (intro g; omega) | (intro g hg; omega) | (intro g hg h; omega))
    replace o0_0 := o0_0.via hbut14_5 (by first | omega | (intro g; omega) | (intro g hg; omega) | (intro g hg h; omega))
    replace o1_8 := o1_8.via hbut14_5 (by first | omega | (intro g; omega) | (intro g hg; omega) | (intro g hg h; omega))
    refine Reg.nil ?_
    refine At.fall rfl Try.func35 rfl ?_
    rw [show backM L fr ⟨0, i, fe, fh⟩ v = fstM ((el L i).getD 0 0) (el L i) i fr fe fh v from rfl, show fstM ((el L i).getD 0 0) (el L i) i fr fe fh v = _ from if_pos (by omega)]
    exact AfterR.ev hM2 hL hen
  first | (simp only [decide_eq_true_eq, decide_eq_false_iff_not, Bool.not_eq_true', Bool.not_eq_false', ne_eq, Decidable.not_not, Bool.not_eq_true, Bool.not_eq_false] at q25) | (dsimp only at q25) | skip
  refine At.region rfl rfl ?_
  refine Reg.pur rfl rfl rfl rfl (Pur.eql rfl rfl) ?_
  refine Reg.pur rfl rfl rfl rfl (Pur.asg rfl) ?_
  refine Reg.nil ?_
  refine At.cond rfl rfl (fun q25 => ?_) (fun q25 => ?_)
  · first | (simp only [decide_eq_true_eq, decide_eq_false_iff_not, Bool.not_eq_true', Bool.not_eq_false', ne_eq, Decidable.not_not, Bool.not_eq_true, Bool.not_eq_false] at q25) | (dsimp only at q25) | skip
    refine At.condT rfl rfl (by first | exact q25 | exact decide_eq_true q25 | exact decide_eq_false q25 | simpa using q25) ?_
    refine At.region rfl rfl ?_
    refine Reg.pur rfl rfl rfl rfl (Pur.asg rfl) ?_
    refine Reg.nil ?_
    refine At.region rfl rfl ?_
    refine Reg.pur rfl rfl rfl rfl (Pur.fld _ fo76_0 rfl) ?_
    refine Reg.lod rfl rfl rfl rfl (Lod.ld sc3 rfl o0_0.blk rfl) ?_
    refine Reg.nil ?_
    refine At.region rfl rfl ?_
    refine Reg.pur rfl rfl rfl rfl (Pur.eql rfl rfl) ?_
    refine Reg.pur rfl rfl rfl rfl (Pur.asg rfl) ?_
    refine Reg.nil ?_
    refine At.cond rfl rfl (fun q31 => ?_) (fun q31 => ?_)
    · first | (simp only [decide_eq_true_eq, decide_eq_false_iff_not, Bool.not_eq_true', Bool.not_eq_false', ne_eq, Decidable.not_not, Bool.not_eq_true, Bool.not_eq_false] at q31) | (dsimp only at q31) | skip
      refine At.region rfl rfl ?_
      refine Reg.pur rfl rfl rfl rfl (Pur.asg rfl) ?_
      refine Reg.nil ?_
      obtain ⟨rfl, hfk, h5, h12⟩ := fst_of hT hok hkk (by omega)
      obtain rfl : i = fi := hni (by decide)
      have hinv := fkn_inv h5 h12
      refine At.drawE ((Bks.cons hmo.blk (Bks.cons o0_0.blk Bks.nil))) [8] mixed rfl rfl ?_
      refine RegD.tpur (i := 0) rfl rfl rfl rfl (by kernel_rfl) (Pur.mv rfl) ?_
      refine RegD.tpur (i := 1) rfl rfl rfl rfl (by kernel_rfl) (Pur.mv rfl) ?_
      refine RegD.tpur (i := 2) rfl rfl rfl rfl (by kernel_rfl) (Pur.fld _ fo76_1 rfl) ?_
      refine RegD.takeT (i := 3) rfl rfl rfl rfl (by kernel_rfl) (Bks.cons hmo.blk (Bks.cons o0_0.blk Bks.nil)) (fun H hS => Lod.ld sc3 rfl hS.tl.hd rfl) ?_
      refine RegD.tpur (i := 4) rfl rfl rfl rfl (by kernel_rfl) (Pur.mv rfl) ?_
      refine RegD.tpur (i := 5) rfl rfl rfl rfl (by kernel_rfl) (Pur.nilc rfl) ?_
      refine RegD.tpur (i := 6) rfl rfl rfl rfl (by kernel_rfl) (Pur.fld _ fo60_5 rfl) ?_
      refine RegD.takeT (i := 7) rfl rfl rfl rfl (by kernel_rfl) (Bks.cons hmo.blk (Bks.cons o0_0.blk Bks.nil)) (fun H hS => Lod.ldn ag58 rfl hS.hd rfl rfl) ?_
      have hkd : (el L i).getD 0 0 = 8 := hinv.2.2.2.1 (hfk.trans (by omega))
      have hps := pushR_ok hM (rqF_sec (k := 5) (show (if (el L i).getD 0 0 = 5 then (1 : Int) else if (el L i).getD 0 0 = 8 then 5 else 10) = 5 by rw [hkd]; rfl) hv hi0 hi1) (by omega)

      refine RegD.one (i := 8) (by kernel_rfl) rfl rfl rfl rfl (Does.call rfl (hps)) ?_
      rintro _ H13_8 ⟨A1, cap1, hM1, hbut13_8, hA1⟩
      have z13_8 := hbut13_8.lt
      first | replace hL := hL.via hbut13_8 (by first | omega | (intro g; omega) | (intro g hg; omega) | (intro g hg h; omega)) | skip
      replace hB := hB.via hbut13_8 (by first | omega | (intro g; omega) | (intro g hg; omega) | (intro g hg h; omega))
      replace o0_0 := o0_0.via hbut13_8 (by first | omega | (intro g; omega) | (intro g hg; omega) | (intro g hg h; omega))
      replace o1_8 := o1_8.via hbut13_8 (by first | omega | (intro g; omega) | (intro g hg; omega) | (intro g hg h; omega))
      refine ⟨fun h => (by cases h), ?_⟩
      refine RegD.done (by kernel_rfl) ?_
      have zM1 := hM1.lt
      refine At.region rfl rfl ?_
      refine Reg.pur rfl rfl rfl rfl (Pur.mv rfl) ?_
      refine Reg.pur rfl rfl rfl rfl (Pur.fld _ fo37_2 rfl) ?_
      refine Reg.lod rfl rfl rfl rfl (Lod.ld sc3 rfl o1_8.blk (hat 2 (by decide))) ?_
      refine Reg.pur rfl rfl rfl rfl (Pur.fld _ fo76_2 rfl) ?_
      refine Reg.lod rfl rfl rfl rfl (Lod.ld sc55 rfl o0_0.blk rfl) ?_
      refine Reg.op rfl rfl rfl rfl (Does.call rfl (goesR_ok hM1 _ _ (rqE_cell hen))) ?_
      rintro _ H14_5 ⟨hM2, hbut14_5⟩
      have z14_5 := hbut14_5.lt
      first | replace hL := hL.via hbut14_5 (by first | omega | (intro g; omega) | (intro g hg; omega) | (intro g hg h; omega)) | skip
      replace hB := hB.via hbut14_5 (by first | omega | (intro g; omega) | (intro g hg; omega) | (intro g hg h; omega))
      replace o0_0 := o0_0.via hbut14_5 (by first | omega | (intro g; omega) | (intro g hg; omega) | (intro g hg h; omega))
      replace o1_8 := o1_8.via hbut14_5 (by first | omega | (intro g; omega) | (intro g hg; omega) | (intro g hg h; omega))
      refine Reg.nil ?_
      refine At.fall rfl Try.func35 rfl ?_
      rw [show backM L fr ⟨0, i, fe, fh⟩ v = fstM ((el L i).getD 0 0) (el L i) i fr fe fh v from rfl, show fstM ((el L i).getD 0 0) (el L i) i fr fe fh v = _ from if_pos (by omega)]
      exact AfterR.ev hM2 hL hen
    first | (simp only [decide_eq_true_eq, decide_eq_false_iff_not, Bool.not_eq_true', Bool.not_eq_false', ne_eq, Decidable.not_not, Bool.not_eq_true, Bool.not_eq_false] at q31) | (dsimp only at q31) | skip
    refine At.region rfl rfl ?_
    refine Reg.pur rfl rfl rfl rfl (Pur.eql rfl rfl) ?_
    refine Reg.pur rfl rfl rfl rfl (Pur.asg rfl) ?_
    refine Reg.nil ?_
    refine At.cond rfl rfl (fun q33 => ?_) (fun q33 => ?_)
    · first | (simp only [decide_eq_true_eq, decide_eq_false_iff_not, Bool.not_eq_true', Bool.not_eq_false', ne_eq, Decidable.not_not, Bool.not_eq_true, Bool.not_eq_false] at q33) | (dsimp only at q33) | skip
      refine At.region rfl rfl ?_
      refine Reg.pur rfl rfl rfl rfl (Pur.asg rfl) ?_
      refine Reg.nil ?_
      obtain ⟨rfl, hfk, h5, h12⟩ := fst_of hT hok hkk (by omega)
      obtain rfl : i = fi := hni (by decide)
      have hinv := fkn_inv h5 h12
      refine At.drawE ((Bks.cons hmo.blk (Bks.cons o0_0.blk Bks.nil))) [8] mixed rfl rfl ?_
      refine RegD.tpur (i := 0) rfl rfl rfl rfl (by kernel_rfl) (Pur.mv rfl) ?_
      refine RegD.tpur (i := 1) rfl rfl rfl rfl (by kernel_rfl) (Pur.mv rfl) ?_
      refine RegD.tpur (i := 2) rfl rfl rfl rfl (by kernel_rfl) (Pur.fld _ fo76_1 rfl) ?_
      refine RegD.takeT (i := 3) rfl rfl rfl rfl (by kernel_rfl) (Bks.cons hmo.blk (Bks.cons o0_0.blk Bks.nil)) (fun H hS => Lod.ld sc3 rfl hS.tl.hd rfl) ?_
      refine RegD.tpur (i := 4) rfl rfl rfl rfl (by kernel_rfl) (Pur.mv rfl) ?_
      refine RegD.tpur (i := 5) rfl rfl rfl rfl (by kernel_rfl) (Pur.nilc rfl) ?_
      refine RegD.tpur (i := 6) rfl rfl rfl rfl (by kernel_rfl) (Pur.fld _ fo60_5 rfl) ?_
      refine RegD.takeT (i := 7) rfl rfl rfl rfl (by kernel_rfl) (Bks.cons hmo.blk (Bks.cons o0_0.blk Bks.nil)) (fun H hS => Lod.ldn ag58 rfl hS.hd rfl rfl) ?_
      have hkd : (el L i).getD 0 0 = 10 := hinv.2.2.2.2.2.1 (hfk.trans (by omega))
      have hps := pushR_ok hM (rqF_sec (k := 10) (show (if (el L i).getD 0 0 = 5 then (1 : Int) else if (el L i).getD 0 0 = 8 then 5 else 10) = 10 by rw [hkd]; rfl) hv hi0 hi1) (by omega)

      refine RegD.one (i := 8) (by kernel_rfl) rfl rfl rfl rfl (Does.call rfl (hps)) ?_
      rintro _ H13_8 ⟨A1, cap1, hM1, hbut13_8, hA1⟩
      have z13_8 := hbut13_8.lt
      first | replace hL := hL.via hbut13_8 (by first | omega | (intro g; omega) | (intro g hg; omega) | (intro g hg h; omega)) | skip
      replace hB := hB.via hbut13_8 (by first | omega | (intro g; omega) | (intro g hg; omega) | (intro g hg h; omega))
      replace o0_0 := o0_0.via hbut13_8 (by first | omega | (intro g; omega) | (intro g hg; omega) | (intro g hg h; omega))
      replace o1_8 := o1_8.via hbut13_8 (by first | omega | (intro g; omega) | (intro g hg; omega) | (intro g hg h; omega))
      refine ⟨fun h => (by cases h), ?_⟩
      refine RegD.done (by kernel_rfl) ?_
      have zM1 := hM1.lt
      refine At.region rfl rfl ?_
      refine Reg.pur rfl rfl rfl rfl (Pur.mv rfl) ?_
      refine Reg.pur rfl rfl rfl rfl (Pur.fld _ fo37_2 rfl) ?_
      refine Reg.lod rfl rfl rfl rfl (Lod.ld sc3 rfl o1_8.blk (hat 2 (by decide))) ?_
      refine Reg.pur rfl rfl rfl rfl (Pur.fld _ fo76_2 rfl) ?_
      refine Reg.lod rfl rfl rfl rfl (Lod.ld sc55 rfl o0_0.blk rfl) ?_
      refine Reg.op rfl rfl rfl rfl (Does.call rfl (goesR_ok hM1 _ _ (rqE_cell hen))) ?_
      rintro _ H14_5 ⟨hM2, hbut14_5⟩
      have z14_5 := hbut14_5.lt
      first | replace hL := hL.via hbut14_5 (by first | omega | (intro g; omega) | (intro g hg; omega) | (intro g hg h; omega)) | skip
      replace hB := hB.via hbut14_5 (by first | omega | (intro g; omega) | (intro g hg; omega) | (intro g hg h; omega))
      replace o0_0 := o0_0.via hbut14_5 (by first | omega | (intro g; omega) | (intro g hg; omega) | (intro g hg h; omega))
      replace o1_8 := o1_8.via hbut14_5 (by first | omega | (intro g; omega) | (intro g hg; omega) | (intro g hg h; omega))
      refine Reg.nil ?_
      refine At.fall rfl Try.func35 rfl ?_
      rw [show backM L fr ⟨0, i, fe, fh⟩ v = fstM ((el L i).getD 0 0) (el L i) i fr fe fh v from rfl, show fstM ((el L i).getD 0 0) (el L i) i fr fe fh v = _ from if_pos (by omega)]
      exact AfterR.ev hM2 hL hen
    first | (simp only [decide_eq_true_eq, decide_eq_false_iff_not, Bool.not_eq_true', Bool.not_eq_false', ne_eq, Decidable.not_not, Bool.not_eq_true, Bool.not_eq_false] at q33) | (dsimp only at q33) | skip
    obtain ⟨rfl, hfk, h5, h12⟩ := fst_of hT hok hkk (by omega)
    obtain rfl : i = fi := hni (by decide)
    have hinv := fkn_inv h5 h12
    refine At.drawE ((Bks.cons hmo.blk (Bks.cons o0_0.blk Bks.nil))) [8] mixed rfl rfl ?_
    refine RegD.tpur (i := 0) rfl rfl rfl rfl (by kernel_rfl) (Pur.mv rfl) ?_
    refine RegD.tpur (i := 1) rfl rfl rfl rfl (by kernel_rfl) (Pur.mv rfl) ?_
    refine RegD.tpur (i := 2) rfl rfl rfl rfl (by kernel_rfl) (Pur.fld _ fo76_1 rfl) ?_
    refine RegD.takeT (i := 3) rfl rfl rfl rfl (by kernel_rfl) (Bks.cons hmo.blk (Bks.cons o0_0.blk Bks.nil)) (fun H hS => Lod.ld sc3 rfl hS.tl.hd rfl) ?_
    refine RegD.tpur (i := 4) rfl rfl rfl rfl (by kernel_rfl) (Pur.mv rfl) ?_
    refine RegD.tpur (i := 5) rfl rfl rfl rfl (by kernel_rfl) (Pur.nilc rfl) ?_
    refine RegD.tpur (i := 6) rfl rfl rfl rfl (by kernel_rfl) (Pur.fld _ fo60_5 rfl) ?_
    refine RegD.takeT (i := 7) rfl rfl rfl rfl (by kernel_rfl) (Bks.cons hmo.blk (Bks.cons o0_0.blk Bks.nil)) (fun H hS => Lod.ldn ag58 rfl hS.hd rfl rfl) ?_
    have hkd : (el L i).getD 0 0 = 5 := hinv.1 (hfk.trans (by omega))
    have hps := pushR_ok hM (rqF_sec (k := 1) (show (if (el L i).getD 0 0 = 5 then (1 : Int) else if (el L i).getD 0 0 = 8 then 5 else 10) = 1 by rw [hkd]; rfl) hv hi0 hi1) (by omega)

    refine RegD.one (i := 8) (by kernel_rfl) rfl rfl rfl rfl (Does.call rfl (hps)) ?_
    rintro _ H13_8 ⟨A1, cap1, hM1, hbut13_8, hA1⟩
    have z13_8 := hbut13_8.lt
    first | replace hL := hL.via hbut13_8 (by first | omega | (intro g; omega) | (intro g hg; omega) | (intro g hg h; omega)) | skip
    replace hB := hB.via hbut13_8 (by first | omega | (intro g; omega) | (intro g hg; omega) | (intro g hg h; omega))
    replace o0_0 := o0_0.via hbut13_8 (by first | omega | (intro g; omega) | (intro g hg; omega) | (intro g hg h; omega))
    replace o1_8 := o1_8.via hbut13_8 (by first | omega | (intro g; omega) | (intro g hg; omega) | (intro g hg h; omega))
    refine ⟨fun h => (by cases h), ?_⟩
    refine RegD.done (by kernel_rfl) ?_
    have zM1 := hM1.lt
    refine At.region rfl rfl ?_
    refine Reg.pur rfl rfl rfl rfl (Pur.mv rfl) ?_
    refine Reg.pur rfl rfl rfl rfl (Pur.fld _ fo37_2 rfl) ?_
    refine Reg.lod rfl rfl rfl rfl (Lod.ld sc3 rfl o1_8.blk (hat 2 (by decide))) ?_
    refine Reg.pur rfl rfl rfl rfl (Pur.fld _ fo76_2 rfl) ?_
    refine Reg.lod rfl rfl rfl rfl (Lod.ld sc55 rfl o0_0.blk rfl) ?_
    refine Reg.op rfl rfl rfl rfl (Does.call rfl (goesR_ok hM1 _ _ (rqE_cell hen))) ?_
    rintro _ H14_5 ⟨hM2, hbut14_5⟩
    have z14_5 := hbut14_5.lt
    first | replace hL := hL.via hbut14_5 (by first | omega | (intro g; omega) | (intro g hg; omega) | (intro g hg h; omega)) | skip
    replace hB := hB.via hbut14_5 (by first | omega | (intro g; omega) | (intro g hg; omega) | (intro g hg h; omega))
    replace o0_0 := o0_0.via hbut14_5 (by first | omega | (intro g; omega) | (intro g hg; omega) | (intro g hg h; omega))
    replace o1_8 := o1_8.via hbut14_5 (by first | omega | (intro g; omega) | (intro g hg; omega) | (intro g hg h; omega))
    refine Reg.nil ?_
    refine At.fall rfl Try.func35 rfl ?_
    rw [show backM L fr ⟨0, i, fe, fh⟩ v = fstM ((el L i).getD 0 0) (el L i) i fr fe fh v from rfl, show fstM ((el L i).getD 0 0) (el L i) i fr fe fh v = _ from if_pos (by omega)]
    exact AfterR.ev hM2 hL hen
  first | (simp only [decide_eq_true_eq, decide_eq_false_iff_not, Bool.not_eq_true', Bool.not_eq_false', ne_eq, Decidable.not_not, Bool.not_eq_true, Bool.not_eq_false] at q25) | (dsimp only at q25) | skip
  refine At.region rfl rfl ?_
  refine Reg.pur rfl rfl rfl rfl (Pur.eql rfl rfl) ?_
  refine Reg.pur rfl rfl rfl rfl (Pur.asg rfl) ?_
  refine Reg.nil ?_
  refine At.cond rfl rfl (fun q25 => ?_) (fun q25 => ?_)
  · first | (simp only [decide_eq_true_eq, decide_eq_false_iff_not, Bool.not_eq_true', Bool.not_eq_false', ne_eq, Decidable.not_not, Bool.not_eq_true, Bool.not_eq_false] at q25) | (dsimp only at q25) | skip
    refine At.region rfl rfl ?_
    refine Reg.pur rfl rfl rfl rfl (Pur.asg rfl) ?_
    refine Reg.nil ?_
    refine At.region rfl rfl ?_
    refine Reg.pur rfl rfl rfl rfl (Pur.fld _ fo76_0 rfl) ?_
    refine Reg.lod rfl rfl rfl rfl (Lod.ld sc3 rfl o0_0.blk rfl) ?_
    refine Reg.nil ?_
    refine At.region rfl rfl ?_
    refine Reg.pur rfl rfl rfl rfl (Pur.eql rfl rfl) ?_
    refine Reg.pur rfl rfl rfl rfl (Pur.asg rfl) ?_
    refine Reg.nil ?_
    refine At.cond rfl rfl (fun q31 => ?_) (fun q31 => ?_)
    · first | (simp only [decide_eq_true_eq, decide_eq_false_iff_not, Bool.not_eq_true', Bool.not_eq_false', ne_eq, Decidable.not_not, Bool.not_eq_true, Bool.not_eq_false] at q31) | (dsimp only at q31) | skip
      refine At.region rfl rfl ?_
      refine Reg.pur rfl rfl rfl rfl (Pur.asg rfl) ?_
      refine Reg.nil ?_
      obtain ⟨rfl, hfk, h5, h12⟩ := fst_of hT hok hkk (by omega)
      obtain rfl : i = fi := hni (by decide)
      have hinv := fkn_inv h5 h12
      refine At.drawE ((Bks.cons hmo.blk (Bks.cons o0_0.blk Bks.nil))) [8] mixed rfl rfl ?_
      refine RegD.tpur (i := 0) rfl rfl rfl rfl (by kernel_rfl) (Pur.mv rfl) ?_
      refine RegD.tpur (i := 1) rfl rfl rfl rfl (by kernel_rfl) (Pur.mv rfl) ?_
      refine RegD.tpur (i := 2) rfl rfl rfl rfl (by kernel_rfl) (Pur.fld _ fo76_1 rfl) ?_
      refine RegD.takeT (i := 3) rfl rfl rfl rfl (by kernel_rfl) (Bks.cons hmo.blk (Bks.cons o0_0.blk Bks.nil)) (fun H hS => Lod.ld sc3 rfl hS.tl.hd rfl) ?_
      refine RegD.tpur (i := 4) rfl rfl rfl rfl (by kernel_rfl) (Pur.mv rfl) ?_
      refine RegD.tpur (i := 5) rfl rfl rfl rfl (by kernel_rfl) (Pur.nilc rfl) ?_
      refine RegD.tpur (i := 6) rfl rfl rfl rfl (by kernel_rfl) (Pur.fld _ fo60_5 rfl) ?_
      refine RegD.takeT (i := 7) rfl rfl rfl rfl (by kernel_rfl) (Bks.cons hmo.blk (Bks.cons o0_0.blk Bks.nil)) (fun H hS => Lod.ldn ag58 rfl hS.hd rfl rfl) ?_
      have hkd : (el L i).getD 0 0 = 8 := hinv.2.2.2.1 (hfk.trans (by omega))
      have hps := pushR_ok hM (rqF_sec (k := 5) (show (if (el L i).getD 0 0 = 5 then (1 : Int) else if (el L i).getD 0 0 = 8 then 5 else 10) = 5 by rw [hkd]; rfl) hv hi0 hi1) (by omega)

      refine RegD.one (i := 8) (by kernel_rfl) rfl rfl rfl rfl (Does.call rfl (hps)) ?_
      rintro _ H13_8 ⟨A1, cap1, hM1, hbut13_8, hA1⟩
      have z13_8 := hbut13_8.lt
      first | replace hL := hL.via hbut13_8 (by first | omega | (intro g; omega) | (intro g hg; omega) | (intro g hg h; omega)) | skip
      replace hB := hB.via hbut13_8 (by first | omega | (intro g; omega) | (intro g hg; omega) | (intro g hg h; omega))
      replace o0_0 := o0_0.via hbut13_8 (by first | omega | (intro g; omega) | (intro g hg; omega) | (intro g hg h; omega))
      replace o1_8 := o1_8.via hbut13_8 (by first | omega | (intro g; omega) | (intro g hg; omega) | (intro g hg h; omega))
      refine ⟨fun h => (by cases h), ?_⟩
      refine RegD.done (by kernel_rfl) ?_
      have zM1 := hM1.lt
      refine At.region rfl rfl ?_
      refine Reg.pur rfl rfl rfl rfl (Pur.mv rfl) ?_
      refine Reg.pur rfl rfl rfl rfl (Pur.fld _ fo37_2 rfl) ?_
      refine Reg.lod rfl rfl rfl rfl (Lod.ld sc3 rfl o1_8.blk (hat 2 (by decide))) ?_
      refine Reg.pur rfl rfl rfl rfl (Pur.fld _ fo76_2 rfl) ?_
      refine Reg.lod rfl rfl rfl rfl (Lod.ld sc55 rfl o0_0.blk rfl) ?_
      refine Reg.op rfl rfl rfl rfl (Does.call rfl (goesR_ok hM1 _ _ (rqE_cell hen))) ?_
      rintro _ H14_5 ⟨hM2, hbut14_5⟩
      have z14_5 := hbut14_5.lt
      first | replace hL := hL.via hbut14_5 (by first | omega | (intro g; omega) | (intro g hg; omega) | (intro g hg h; omega)) | skip
      replace hB := hB.via hbut14_5 (by first | omega | (intro g; omega) | (intro g hg; omega) | (intro g hg h; omega))
      replace o0_0 := o0_0.via hbut14_5 (by first | omega | (intro g; omega) | (intro g hg; omega) | (intro g hg h; omega))
      replace o1_8 := o1_8.via hbut14_5 (by first | omega | (intro g; omega) | (intro g hg; omega) | (intro g hg h; omega))
      refine Reg.nil ?_
      refine At.fall rfl Try.func35 rfl ?_
      rw [show backM L fr ⟨0, i, fe, fh⟩ v = fstM ((el L i).getD 0 0) (el L i) i fr fe fh v from rfl, show fstM ((el L i).getD 0 0) (el L i) i fr fe fh v = _ from if_pos (by omega)]
      exact AfterR.ev hM2 hL hen
    first | (simp only [decide_eq_true_eq, decide_eq_false_iff_not, Bool.not_eq_true', Bool.not_eq_false', ne_eq, Decidable.not_not, Bool.not_eq_true, Bool.not_eq_false] at q31) | (dsimp only at q31) | skip
    refine At.region rfl rfl ?_
    refine Reg.pur rfl rfl rfl rfl (Pur.eql rfl rfl) ?_
    refine Reg.pur rfl rfl rfl rfl (Pur.asg rfl) ?_
    refine Reg.nil ?_
    refine At.cond rfl rfl (fun q33 => ?_) (fun q33 => ?_)
    · first | (simp only [decide_eq_true_eq, decide_eq_false_iff_not, Bool.not_eq_true', Bool.not_eq_false', ne_eq, Decidable.not_not, Bool.not_eq_true, Bool.not_eq_false] at q33) | (dsimp only at q33) | skip
      refine At.region rfl rfl ?_
      refine Reg.pur rfl rfl rfl rfl (Pur.asg rfl) ?_
      refine Reg.nil ?_
      obtain ⟨rfl, hfk, h5, h12⟩ := fst_of hT hok hkk (by omega)
      obtain rfl : i = fi := hni (by decide)
      have hinv := fkn_inv h5 h12
      refine At.drawE ((Bks.cons hmo.blk (Bks.cons o0_0.blk Bks.nil))) [8] mixed rfl rfl ?_
      refine RegD.tpur (i := 0) rfl rfl rfl rfl (by kernel_rfl) (Pur.mv rfl) ?_
      refine RegD.tpur (i := 1) rfl rfl rfl rfl (by kernel_rfl) (Pur.mv rfl) ?_
      refine RegD.tpur (i := 2) rfl rfl rfl rfl (by kernel_rfl) (Pur.fld _ fo76_1 rfl) ?_
      refine RegD.takeT (i := 3) rfl rfl rfl rfl (by kernel_rfl) (Bks.cons hmo.blk (Bks.cons o0_0.blk Bks.nil)) (fun H hS => Lod.ld sc3 rfl hS.tl.hd rfl) ?_
      refine RegD.tpur (i := 4) rfl rfl rfl rfl (by kernel_rfl) (Pur.mv rfl) ?_
      refine RegD.tpur (i := 5) rfl rfl rfl rfl (by kernel_rfl) (Pur.nilc rfl) ?_
      refine RegD.tpur (i := 6) rfl rfl rfl rfl (by kernel_rfl) (Pur.fld _ fo60_5 rfl) ?_
      refine RegD.takeT (i := 7) rfl rfl rfl rfl (by kernel_rfl) (Bks.cons hmo.blk (Bks.cons o0_0.blk Bks.nil)) (fun H hS => Lod.ldn ag58 rfl hS.hd rfl rfl) ?_
      have hkd : (el L i).getD 0 0 = 10 := hinv.2.2.2.2.2.1 (hfk.trans (by omega))
      have hps := pushR_ok hM (rqF_sec (k := 10) (show (if (el L i).getD 0 0 = 5 then (1 : Int) else if (el L i).getD 0 0 = 8 then 5 else 10) = 10 by rw [hkd]; rfl) hv hi0 hi1) (by omega)

      refine RegD.one (i := 8) (by kernel_rfl) rfl rfl rfl rfl (Does.call rfl (hps)) ?_
      rintro _ H13_8 ⟨A1, cap1, hM1, hbut13_8, hA1⟩
      have z13_8 := hbut13_8.lt
      first | replace hL := hL.via hbut13_8 (by first | omega | (intro g; omega) | (intro g hg; omega) | (intro g hg h; omega)) | skip
      replace hB := hB.via hbut13_8 (by first | omega | (intro g; omega) | (intro g hg; omega) | (intro g hg h; omega))
      replace o0_0 := o0_0.via hbut13_8 (by first | omega | (intro g; omega) | (intro g hg; omega) | (intro g hg h; omega))
      replace o1_8 := o1_8.via hbut13_8 (by first | omega | (intro g; omega) | (intro g hg; omega) | (intro g hg h; omega))
      refine ⟨fun h => (by cases h), ?_⟩
      refine RegD.done (by kernel_rfl) ?_
      have zM1 := hM1.lt
      refine At.region rfl rfl ?_
      refine Reg.pur rfl rfl rfl rfl (Pur.mv rfl) ?_
      refine Reg.pur rfl rfl rfl rfl (Pur.fld _ fo37_2 rfl) ?_
      refine Reg.lod rfl rfl rfl rfl (Lod.ld sc3 rfl o1_8.blk (hat 2 (by decide))) ?_
      refine Reg.pur rfl rfl rfl rfl (Pur.fld _ fo76_2 rfl) ?_
      refine Reg.lod rfl rfl rfl rfl (Lod.ld sc55 rfl o0_0.blk rfl) ?_
      refine Reg.op rfl rfl rfl rfl (Does.call rfl (goesR_ok hM1 _ _ (rqE_cell hen))) ?_
      rintro _ H14_5 ⟨hM2, hbut14_5⟩
      have z14_5 := hbut14_5.lt
      first | replace hL := hL.via hbut14_5 (by first | omega | (intro g; omega) | (intro g hg; omega) | (intro g hg h; omega)) | skip
      replace hB := hB.via hbut14_5 (by first | omega | (intro g; omega) | (intro g hg; omega) | (intro g hg h; omega))
      replace o0_0 := o0_0.via hbut14_5 (by first | omega | (intro g; omega) | (intro g hg; omega) | (intro g hg h; omega))
      replace o1_8 := o1_8.via hbut14_5 (by first | omega | (intro g; omega) | (intro g hg; omega) | (intro g hg h; omega))
      refine Reg.nil ?_
      refine At.fall rfl Try.func35 rfl ?_
      rw [show backM L fr ⟨0, i, fe, fh⟩ v = fstM ((el L i).getD 0 0) (el L i) i fr fe fh v from rfl, show fstM ((el L i).getD 0 0) (el L i) i fr fe fh v = _ from if_pos (by omega)]
      exact AfterR.ev hM2 hL hen
    first | (simp only [decide_eq_true_eq, decide_eq_false_iff_not, Bool.not_eq_true', Bool.not_eq_false', ne_eq, Decidable.not_not, Bool.not_eq_true, Bool.not_eq_false] at q33) | (dsimp only at q33) | skip
    obtain ⟨rfl, hfk, h5, h12⟩ := fst_of hT hok hkk (by omega)
    obtain rfl : i = fi := hni (by decide)
    have hinv := fkn_inv h5 h12
    refine At.drawE ((Bks.cons hmo.blk (Bks.cons o0_0.blk Bks.nil))) [8] mixed rfl rfl ?_
    refine RegD.tpur (i := 0) rfl rfl rfl rfl (by kernel_rfl) (Pur.mv rfl) ?_
    refine RegD.tpur (i := 1) rfl rfl rfl rfl (by kernel_rfl) (Pur.mv rfl) ?_
    refine RegD.tpur (i := 2) rfl rfl rfl rfl (by kernel_rfl) (Pur.fld _ fo76_1 rfl) ?_
    refine RegD.takeT (i := 3) rfl rfl rfl rfl (by kernel_rfl) (Bks.cons hmo.blk (Bks.cons o0_0.blk Bks.nil)) (fun H hS => Lod.ld sc3 rfl hS.tl.hd rfl) ?_
    refine RegD.tpur (i := 4) rfl rfl rfl rfl (by kernel_rfl) (Pur.mv rfl) ?_
    refine RegD.tpur (i := 5) rfl rfl rfl rfl (by kernel_rfl) (Pur.nilc rfl) ?_
    refine RegD.tpur (i := 6) rfl rfl rfl rfl (by kernel_rfl) (Pur.fld _ fo60_5 rfl) ?_
    refine RegD.takeT (i := 7) rfl rfl rfl rfl (by kernel_rfl) (Bks.cons hmo.blk (Bks.cons o0_0.blk Bks.nil)) (fun H hS => Lod.ldn ag58 rfl hS.hd rfl rfl) ?_
    have hkd : (el L i).getD 0 0 = 5 := hinv.1 (hfk.trans (by omega))
    have hps := pushR_ok hM (rqF_sec (k := 1) (show (if (el L i).getD 0 0 = 5 then (1 : Int) else if (el L i).getD 0 0 = 8 then 5 else 10) = 1 by rw [hkd]; rfl) hv hi0 hi1) (by omega)

    refine RegD.one (i := 8) (by kernel_rfl) rfl rfl rfl rfl (Does.call rfl (hps)) ?_
    rintro _ H13_8 ⟨A1, cap1, hM1, hbut13_8, hA1⟩
    have z13_8 := hbut13_8.lt
    first | replace hL := hL.via hbut13_8 (by first | omega | (intro g; omega) | (intro g hg; omega) | (intro g hg h; omega)) | skip
    replace hB := hB.via hbut13_8 (by first | omega | (intro g; omega) | (intro g hg; omega) | (intro g hg h; omega))
    replace o0_0 := o0_0.via hbut13_8 (by first | omega | (intro g; omega) | (intro g hg; omega) | (intro g hg h; omega))
    replace o1_8 := o1_8.via hbut13_8 (by first | omega | (intro g; omega) | (intro g hg; omega) | (intro g hg h; omega))
    refine ⟨fun h => (by cases h), ?_⟩
    refine RegD.done (by kernel_rfl) ?_
    have zM1 := hM1.lt
    refine At.region rfl rfl ?_
    refine Reg.pur rfl rfl rfl rfl (Pur.mv rfl) ?_
    refine Reg.pur rfl rfl rfl rfl (Pur.fld _ fo37_2 rfl) ?_
    refine Reg.lod rfl rfl rfl rfl (Lod.ld sc3 rfl o1_8.blk (hat 2 (by decide))) ?_
    refine Reg.pur rfl rfl rfl rfl (Pur.fld _ fo76_2 rfl) ?_
    refine Reg.lod rfl rfl rfl rfl (Lod.ld sc55 rfl o0_0.blk rfl) ?_
    refine Reg.op rfl rfl rfl rfl (Does.call rfl (goesR_ok hM1 _ _ (rqE_cell hen))) ?_
    rintro _ H14_5 ⟨hM2, hbut14_5⟩
    have z14_5 := hbut14_5.lt
    first | replace hL := hL.via hbut14_5 (by first | omega | (intro g; omega) | (intro g hg; omega) | (intro g hg h; omega)) | skip
    replace hB := hB.via hbut14_5 (by first | omega | (intro g; omega) | (intro g hg; omega) | (intro g hg h; omega))
    replace o0_0 := o0_0.via hbut14_5 (by first | omega | (intro g; omega) | (intro g hg; omega) | (intro g hg h; omega))
    replace o1_8 := o1_8.via hbut14_5 (by first | omega | (intro g; omega) | (intro g hg; omega) | (intro g hg h; omega))
    refine Reg.nil ?_
    refine At.fall rfl Try.func35 rfl ?_
    rw [show backM L fr ⟨0, i, fe, fh⟩ v = fstM ((el L i).getD 0 0) (el L i) i fr fe fh v from rfl, show fstM ((el L i).getD 0 0) (el L i) i fr fe fh v = _ from if_pos (by omega)]
    exact AfterR.ev hM2 hL hen
  first | (simp only [decide_eq_true_eq, decide_eq_false_iff_not, Bool.not_eq_true', Bool.not_eq_false', ne_eq, Decidable.not_not, Bool.not_eq_true, Bool.not_eq_false] at q25) | (dsimp only at q25) | skip
  refine At.region rfl rfl ?_
  refine Reg.pur rfl rfl rfl rfl (Pur.eql rfl rfl) ?_
  refine Reg.pur rfl rfl rfl rfl (Pur.asg rfl) ?_
  refine Reg.nil ?_
  refine At.cond rfl rfl (fun q50 => ?_) (fun q50 => ?_)
  · first | (simp only [decide_eq_true_eq, decide_eq_false_iff_not, Bool.not_eq_true', Bool.not_eq_false', ne_eq, Decidable.not_not, Bool.not_eq_true, Bool.not_eq_false] at q50) | (dsimp only at q50) | skip
    subst q50
    have hca := fk_call hok hkk
    dsimp only at hca
    have hhv : fh.isV L := by rcases hok with ⟨h, _⟩ | ⟨_, _, _, _, h⟩ | ⟨_, _, _, h⟩; (exfalso; dsimp only at h; omega); exact h; exact h
    refine At.region rfl rfl ?_
    refine Reg.pur rfl rfl rfl rfl (Pur.mv rfl) ?_
    refine Reg.pur rfl rfl rfl rfl (Pur.fld _ fo76_3 rfl) ?_
    refine Reg.lod rfl rfl rfl rfl (Lod.ldn ag58 rfl o0_0.blk rfl rfl) ?_
    have hcl := callR_ok hT hM (hhd (by omega)) hv hhv hl

    refine Reg.op rfl rfl rfl rfl (Does.call rfl (hcl)) ?_
    rintro _ H16_3 ⟨hbut16_3, hAf⟩
    have z16_3 := hbut16_3.lt
    first | replace hL := hL.via hbut16_3 (by first | omega | (intro g; omega) | (intro g hg; omega) | (intro g hg h; omega)) | skip
    replace hB := hB.via hbut16_3 (by first | omega | (intro g; omega) | (intro g hg; omega) | (intro g hg h; omega))
    replace o0_0 := o0_0.via hbut16_3 (by first | omega | (intro g; omega) | (intro g hg; omega) | (intro g hg h; omega))
    replace o1_8 := o1_8.via hbut16_3 (by first | omega | (intro g; omega) | (intro g hg; omega) | (intro g hg h; omega))
    refine Reg.nil ?_
    refine At.fall rfl Try.func35 rfl ?_
    have hbk : backM L fr ⟨fw, fi, fe, fh⟩ v = callM L fr fh v := by
      rcases hca with ⟨rfl, hk5⟩ | rfl
      · rw [show backM L fr ⟨1, fi, fe, fh⟩ v = sndM L ((el L fi).getD 0 0) (el L fi) fr fh v from rfl]; exact if_pos hk5
      · rfl
    rw [hbk]
    exact ⟨hL.but, hAf⟩
  first | (simp only [decide_eq_true_eq, decide_eq_false_iff_not, Bool.not_eq_true', Bool.not_eq_false', ne_eq, Decidable.not_not, Bool.not_eq_true, Bool.not_eq_false] at q50) | (dsimp only at q50) | skip
  refine At.region rfl rfl ?_
  refine Reg.pur rfl rfl rfl rfl (Pur.eql rfl rfl) ?_
  refine Reg.pur rfl rfl rfl rfl (Pur.asg rfl) ?_
  refine Reg.nil ?_
  refine At.cond rfl rfl (fun q56 => ?_) (fun q56 => ?_)
  · first | (simp only [decide_eq_true_eq, decide_eq_false_iff_not, Bool.not_eq_true', Bool.not_eq_false', ne_eq, Decidable.not_not, Bool.not_eq_true, Bool.not_eq_false] at q56) | (dsimp only at q56) | skip
    subst q56
    obtain ⟨rfl, hfk, h5, h12⟩ := fst_of hT hok hkk (by omega)
    obtain rfl : i = fi := hni (by decide)
    have hkd := (fkn_inv h5 h12).2.1 hfk
    refine At.drawE ((Bks.cons o1_8.blk (Bks.cons o0_0.blk (Bks.cons hmo.blk Bks.nil)))) [12] mixed rfl rfl ?_
    refine RegD.tpur (i := 0) rfl rfl rfl rfl (by kernel_rfl) (Pur.mv rfl) ?_
    refine RegD.tpur (i := 1) rfl rfl rfl rfl (by kernel_rfl) (Pur.fld _ fo37_2 rfl) ?_
    refine RegD.takeT (i := 2) rfl rfl rfl rfl (by kernel_rfl) (Bks.cons o1_8.blk (Bks.cons o0_0.blk (Bks.cons hmo.blk Bks.nil))) (fun H hS => Lod.ld sc3 rfl hS.hd (hat 2 (by decide))) ?_
    refine RegD.tpur (i := 3) rfl rfl rfl rfl (by kernel_rfl) (Pur.fld _ fo76_2 rfl) ?_
    refine RegD.takeT (i := 4) rfl rfl rfl rfl (by kernel_rfl) (Bks.cons o1_8.blk (Bks.cons o0_0.blk (Bks.cons hmo.blk Bks.nil))) (fun H hS => Lod.ld sc55 rfl hS.tl.hd rfl) ?_
    refine RegD.tpur (i := 5) rfl rfl rfl rfl (by kernel_rfl) (Pur.fld _ fo37_5 rfl) ?_
    refine RegD.takeT (i := 6) rfl rfl rfl rfl (by kernel_rfl) (Bks.cons o1_8.blk (Bks.cons o0_0.blk (Bks.cons hmo.blk Bks.nil))) (fun H hS => Lod.ld sc3 rfl hS.hd (hat 5 (by decide))) ?_
    refine RegD.tpur (i := 7) rfl rfl rfl rfl (by kernel_rfl) (Pur.mv rfl) ?_
    refine RegD.tpur (i := 8) rfl rfl rfl rfl (by kernel_rfl) (Pur.nilc rfl) ?_
    refine RegD.tpur (i := 9) rfl rfl rfl rfl (by kernel_rfl) (Pur.fld _ fo60_5 rfl) ?_
    refine RegD.takeT (i := 10) rfl rfl rfl rfl (by kernel_rfl) (Bks.cons o1_8.blk (Bks.cons o0_0.blk (Bks.cons hmo.blk Bks.nil))) (fun H hS => Lod.ldn ag58 rfl hS.tl.tl.hd rfl rfl) ?_

    refine RegD.one (i := 11) (by kernel_rfl) rfl rfl rfl rfl (Does.call rfl (namedR_ok hM hv hen _)) ?_
    rintro v8 H18_11 ⟨G2, hle2, hen2, hM2, hE18_11⟩
    have z18_11 := hE18_11.lt
    first | replace hL := hL.ext hE18_11 | skip
    replace hmo := hmo.ext hE18_11
    replace hB := hB.ext hE18_11
    replace o0_0 := o0_0.ext hE18_11
    replace o1_8 := o1_8.ext hE18_11
    refine ⟨fun _ _ => (Bks.cons o1_8.blk (Bks.cons o0_0.blk (Bks.cons hmo.blk Bks.nil))), ?_⟩

    refine RegD.one (i := 12) (by kernel_rfl) rfl rfl rfl rfl (Does.call rfl (goesR_ok hM2 _ _ (rqE_cell hen2))) ?_
    rintro _ H18_12 ⟨hM3, hbut18_12⟩
    have z18_12 := hbut18_12.lt
    first | replace hL := hL.via hbut18_12 (by first | omega | (intro g; omega) | (intro g hg; omega) | (intro g hg h; omega)) | skip
    replace hB := hB.via hbut18_12 (by first | omega | (intro g; omega) | (intro g hg; omega) | (intro g hg h; omega))
    replace o0_0 := o0_0.via hbut18_12 (by first | omega | (intro g; omega) | (intro g hg; omega) | (intro g hg h; omega))
    replace o1_8 := o1_8.via hbut18_12 (by first | omega | (intro g; omega) | (intro g hg; omega) | (intro g hg h; omega))
    refine ⟨fun h => (by cases h), ?_⟩
    refine RegD.done (by kernel_rfl) ?_
    refine At.fall rfl Try.func35 rfl ?_
    rw [show backM L fr ⟨0, i, fe, fh⟩ v = fstM ((el L i).getD 0 0) (el L i) i fr fe fh v from rfl, hkd]
    exact AfterR.ev hM3 hL hen2
  first | (simp only [decide_eq_true_eq, decide_eq_false_iff_not, Bool.not_eq_true', Bool.not_eq_false', ne_eq, Decidable.not_not, Bool.not_eq_true, Bool.not_eq_false] at q56) | (dsimp only at q56) | skip
  refine At.region rfl rfl ?_
  refine Reg.pur rfl rfl rfl rfl (Pur.eql rfl rfl) ?_
  refine Reg.pur rfl rfl rfl rfl (Pur.asg rfl) ?_
  refine Reg.nil ?_
  refine At.cond rfl rfl (fun q71 => ?_) (fun q71 => ?_)
  · first | (simp only [decide_eq_true_eq, decide_eq_false_iff_not, Bool.not_eq_true', Bool.not_eq_false', ne_eq, Decidable.not_not, Bool.not_eq_true, Bool.not_eq_false] at q71) | (dsimp only at q71) | skip
    subst q71
    obtain ⟨rfl, hfk, h5, h12⟩ := fst_of hT hok hkk (by omega)
    obtain rfl : i = fi := hni (by decide)
    have hkd := (fkn_inv h5 h12).2.2.1 hfk
    rw [show backM L fr ⟨0, i, fe, fh⟩ v = fstM ((el L i).getD 0 0) (el L i) i fr fe fh v from rfl, hkd]
    refine At.region rfl rfl ?_
    refine Reg.pur rfl rfl rfl rfl (Pur.mv rfl) ?_
    refine Reg.pur rfl rfl rfl rfl (Pur.nilc rfl) ?_
    refine Reg.pur rfl rfl rfl rfl (Pur.fld _ fo60_5 rfl) ?_
    refine Reg.pur rfl rfl rfl rfl (Pur.fld _ fo58_0 rfl) ?_
    refine Reg.lod rfl rfl rfl rfl (Lod.ld sc3 rfl hmo.blk rfl) ?_
    refine Reg.pur rfl rfl rfl rfl (Pur.neq rfl rfl) ?_
    refine Reg.nil ?_
    refine At.cond rfl rfl (fun q78 => ?_) (fun q78 => ?_)
    · first | (simp only [decide_eq_true_eq, decide_eq_false_iff_not, Bool.not_eq_true', Bool.not_eq_false', ne_eq, Decidable.not_not, Bool.not_eq_true, Bool.not_eq_false] at q78) | (dsimp only at q78) | skip
      refine At.region rfl rfl ?_
      refine Reg.pur rfl rfl rfl rfl (Pur.mv rfl) ?_

      refine Reg.op rfl rfl rfl rfl (Does.call rfl (endR_ok hM 5 0)) ?_
      rintro _ H21_1 ⟨hM1, hbut21_1⟩
      have z21_1 := hbut21_1.lt
      first | replace hL := hL.via hbut21_1 (by first | omega | (intro g; omega) | (intro g hg; omega) | (intro g hg h; omega)) | skip
      replace hB := hB.via hbut21_1 (by first | omega | (intro g; omega) | (intro g hg; omega) | (intro g hg h; omega))
      replace o0_0 := o0_0.via hbut21_1 (by first | omega | (intro g; omega) | (intro g hg; omega) | (intro g hg h; omega))
      replace o1_8 := o1_8.via hbut21_1 (by first | omega | (intro g; omega) | (intro g hg; omega) | (intro g hg h; omega))
      refine Reg.nil ?_
      refine At.fall rfl Try.func35 rfl ?_
      rw [show fstM 7 (el L i) i fr fe fh v = .fin 5 0 by (cases v <;> first | rfl | exact (q78 rfl).elim)]
      exact AfterR.fin hM1 hL hl
    first | (simp only [decide_eq_true_eq, decide_eq_false_iff_not, Bool.not_eq_true', Bool.not_eq_false', ne_eq, Decidable.not_not, Bool.not_eq_true, Bool.not_eq_false] at q78) | (dsimp only at q78) | skip
    obtain rfl := rtru_of hv q78
    refine At.region rfl rfl ?_
    refine Reg.pur rfl rfl rfl rfl (Pur.mv rfl) ?_
    refine Reg.pur rfl rfl rfl rfl (Pur.nilc rfl) ?_
    refine Reg.pur rfl rfl rfl rfl (Pur.fld _ fo60_5 rfl) ?_
    refine Reg.pur rfl rfl rfl rfl (Pur.fld _ fo58_1 rfl) ?_
    refine Reg.lod rfl rfl rfl rfl (Lod.ld sc3 rfl hmo.blk rfl) ?_
    refine Reg.pur rfl rfl rfl rfl (Pur.eql rfl rfl) ?_
    refine Reg.nil ?_
    refine At.cond rfl rfl (fun q86 => ?_) (fun q86 => ?_)
    · first | (simp only [decide_eq_true_eq, decide_eq_false_iff_not, Bool.not_eq_true', Bool.not_eq_false', ne_eq, Decidable.not_not, Bool.not_eq_true, Bool.not_eq_false] at q86) | (dsimp only at q86) | skip
      refine At.region rfl rfl ?_
      refine Reg.pur rfl rfl rfl rfl (Pur.mv rfl) ?_
      refine Reg.pur rfl rfl rfl rfl (Pur.fld _ fo37_2 rfl) ?_
      refine Reg.lod rfl rfl rfl rfl (Lod.ld sc3 rfl o1_8.blk (hat 2 (by decide))) ?_
      refine Reg.pur rfl rfl rfl rfl (Pur.fld _ fo76_2 rfl) ?_
      refine Reg.lod rfl rfl rfl rfl (Lod.ld sc55 rfl o0_0.blk rfl) ?_

      refine Reg.op rfl rfl rfl rfl (Does.call rfl (goesR_ok hM _ _ rfl)) ?_
      rintro _ H23_5 ⟨hM3, hbut23_5⟩
      have z23_5 := hbut23_5.lt
      first | replace hL := hL.via hbut23_5 (by first | omega | (intro g; omega) | (intro g hg; omega) | (intro g hg h; omega)) | skip
      replace hB := hB.via hbut23_5 (by first | omega | (intro g; omega) | (intro g hg; omega) | (intro g hg h; omega))
      replace o0_0 := o0_0.via hbut23_5 (by first | omega | (intro g; omega) | (intro g hg; omega) | (intro g hg h; omega))
      replace o1_8 := o1_8.via hbut23_5 (by first | omega | (intro g; omega) | (intro g hg; omega) | (intro g hg h; omega))
      refine Reg.nil ?_
      refine At.fall rfl Try.func35 rfl ?_
      rw [show fstM 7 (el L i) i fr fe fh (.tru vn) = _ from if_pos q86]
      exact AfterR.ev hM3 hL hen
    first | (simp only [decide_eq_true_eq, decide_eq_false_iff_not, Bool.not_eq_true', Bool.not_eq_false', ne_eq, Decidable.not_not, Bool.not_eq_true, Bool.not_eq_false] at q86) | (dsimp only at q86) | skip
    refine At.region rfl rfl ?_
    refine Reg.pur rfl rfl rfl rfl (Pur.mv rfl) ?_
    refine Reg.pur rfl rfl rfl rfl (Pur.fld _ fo37_3 rfl) ?_
    refine Reg.lod rfl rfl rfl rfl (Lod.ld sc3 rfl o1_8.blk (hat 3 (by decide))) ?_
    refine Reg.pur rfl rfl rfl rfl (Pur.fld _ fo76_2 rfl) ?_
    refine Reg.lod rfl rfl rfl rfl (Lod.ld sc55 rfl o0_0.blk rfl) ?_

    refine Reg.op rfl rfl rfl rfl (Does.call rfl (goesR_ok hM _ _ rfl)) ?_
    rintro _ H24_5 ⟨hM3, hbut24_5⟩
    have z24_5 := hbut24_5.lt
    first | replace hL := hL.via hbut24_5 (by first | omega | (intro g; omega) | (intro g hg; omega) | (intro g hg h; omega)) | skip
    replace hB := hB.via hbut24_5 (by first | omega | (intro g; omega) | (intro g hg; omega) | (intro g hg h; omega))
    replace o0_0 := o0_0.via hbut24_5 (by first | omega | (intro g; omega) | (intro g hg; omega) | (intro g hg h; omega))
    replace o1_8 := o1_8.via hbut24_5 (by first | omega | (intro g; omega) | (intro g hg; omega) | (intro g hg h; omega))
    refine Reg.nil ?_
    refine At.fall rfl Try.func35 rfl ?_
    rw [show fstM 7 (el L i) i fr fe fh (.tru vn) = _ from if_neg q86]
    exact AfterR.ev hM3 hL hen
  first | (simp only [decide_eq_true_eq, decide_eq_false_iff_not, Bool.not_eq_true', Bool.not_eq_false', ne_eq, Decidable.not_not, Bool.not_eq_true, Bool.not_eq_false] at q71) | (dsimp only at q71) | skip
  refine At.region rfl rfl ?_
  refine Reg.pur rfl rfl rfl rfl (Pur.eql rfl rfl) ?_
  refine Reg.pur rfl rfl rfl rfl (Pur.asg rfl) ?_
  refine Reg.nil ?_
  refine At.cond rfl rfl (fun q99 => ?_) (fun q99 => ?_)
  · first | (simp only [decide_eq_true_eq, decide_eq_false_iff_not, Bool.not_eq_true', Bool.not_eq_false', ne_eq, Decidable.not_not, Bool.not_eq_true, Bool.not_eq_false] at q99) | (dsimp only at q99) | skip
    subst q99
    obtain ⟨hw1, hk8⟩ := (fk_second hok).1 hkk
    dsimp only at hw1 hk8
    subst hw1
    obtain rfl : i = fi := hni (by decide)
    replace hhd := hhd (by decide)
    obtain ⟨hn', hi', hp', hq', hr', hcs⟩ := rqV_cells hhd
    simp only [List.cons.injEq, and_true] at hcs
    obtain ⟨rfl, rfl, rfl, rfl, rfl, rfl, rfl⟩ := hcs
    rw [show backM L fr ⟨1, i, fe, fh⟩ v = sndM L ((el L i).getD 0 0) (el L i) fr fh v from rfl]
    refine At.region rfl rfl ?_
    refine Reg.pur rfl rfl rfl rfl (Pur.mv rfl) ?_
    refine Reg.pur rfl rfl rfl rfl (Pur.nilc rfl) ?_
    refine Reg.pur rfl rfl rfl rfl (Pur.fld _ fo60_5 rfl) ?_
    refine Reg.pur rfl rfl rfl rfl (Pur.fld _ fo58_0 rfl) ?_
    refine Reg.lod rfl rfl rfl rfl (Lod.ld sc3 rfl hmo.blk rfl) ?_
    refine Reg.pur rfl rfl rfl rfl (Pur.neq rfl rfl) ?_
    refine Reg.pur rfl rfl rfl rfl (Pur.mv rfl) ?_
    refine Reg.case 107 rfl (fun q107 => ?_) (fun q107 => ?_)
    · first | (simp only [decide_eq_true_eq, decide_eq_false_iff_not, Bool.not_eq_true', Bool.not_eq_false', ne_eq, Decidable.not_not, Bool.not_eq_true, Bool.not_eq_false] at q107) | (dsimp only at q107) | skip
      refine Reg.skip rfl rfl rfl rfl rfl rfl rfl ?_
      refine Reg.skip rfl rfl rfl rfl rfl rfl rfl ?_
      refine Reg.skip rfl rfl rfl rfl rfl rfl rfl ?_
      refine Reg.skip rfl rfl rfl rfl rfl rfl rfl ?_
      refine Reg.pur rfl rfl rfl rfl (Pur.pickT rfl rfl) ?_
      refine Reg.nil ?_
      refine At.condT rfl rfl rfl ?_
      refine At.region rfl rfl ?_
      refine Reg.pur rfl rfl rfl rfl (Pur.mv rfl) ?_

      refine Reg.op rfl rfl rfl rfl (Does.call rfl (endR_ok hM 5 0)) ?_
      rintro _ H27_1 ⟨hM1, hbut27_1⟩
      have z27_1 := hbut27_1.lt
      first | replace hL := hL.via hbut27_1 (by first | omega | (intro g; omega) | (intro g hg; omega) | (intro g hg h; omega)) | skip
      replace hB := hB.via hbut27_1 (by first | omega | (intro g; omega) | (intro g hg; omega) | (intro g hg h; omega))
      replace o0_0 := o0_0.via hbut27_1 (by first | omega | (intro g; omega) | (intro g hg; omega) | (intro g hg h; omega))
      replace o1_8 := o1_8.via hbut27_1 (by first | omega | (intro g; omega) | (intro g hg; omega) | (intro g hg h; omega))
      refine Reg.nil ?_
      refine At.ret rfl Try.func35 rfl ?_
      have hno : kd fh ≠ 0 ∨ kd v ≠ 0 := by first | exact .inr (by assumption) | exact .inl (by assumption) | omega
      rw [snd_noR (by omega) (by omega) hhd hv hno]
      exact AfterR.fin hM1 hL hl
    first | (simp only [decide_eq_true_eq, decide_eq_false_iff_not, Bool.not_eq_true', Bool.not_eq_false', ne_eq, Decidable.not_not, Bool.not_eq_true, Bool.not_eq_false] at q107) | (dsimp only at q107) | skip
    refine Reg.gpur rfl rfl rfl rfl rfl rfl (Pur.fld _ fo76_3 rfl) ?_
    refine Reg.gpur rfl rfl rfl rfl rfl rfl (Pur.fld _ fo58_0 rfl) ?_
    refine Reg.glod rfl rfl rfl rfl rfl rfl (Lod.ld sc3 rfl o0_0.blk rfl) ?_
    refine Reg.gpur rfl rfl rfl rfl rfl rfl (Pur.neq rfl rfl) ?_
    refine Reg.pur rfl rfl rfl rfl (Pur.pickF rfl rfl) ?_
    refine Reg.nil ?_
    refine At.cond rfl rfl (fun q112 => ?_) (fun q112 => ?_)
    · first | (simp only [decide_eq_true_eq, decide_eq_false_iff_not, Bool.not_eq_true', Bool.not_eq_false', ne_eq, Decidable.not_not, Bool.not_eq_true, Bool.not_eq_false] at q112) | (dsimp only at q112) | skip
      refine At.region rfl rfl ?_
      refine Reg.pur rfl rfl rfl rfl (Pur.mv rfl) ?_

      refine Reg.op rfl rfl rfl rfl (Does.call rfl (endR_ok hM 5 0)) ?_
      rintro _ H27_1 ⟨hM1, hbut27_1⟩
      have z27_1 := hbut27_1.lt
      first | replace hL := hL.via hbut27_1 (by first | omega | (intro g; omega) | (intro g hg; omega) | (intro g hg h; omega)) | skip
      replace hB := hB.via hbut27_1 (by first | omega | (intro g; omega) | (intro g hg; omega) | (intro g hg h; omega))
      replace o0_0 := o0_0.via hbut27_1 (by first | omega | (intro g; omega) | (intro g hg; omega) | (intro g hg h; omega))
      replace o1_8 := o1_8.via hbut27_1 (by first | omega | (intro g; omega) | (intro g hg; omega) | (intro g hg h; omega))
      refine Reg.nil ?_
      refine At.ret rfl Try.func35 rfl ?_
      have hno : kd fh ≠ 0 ∨ kd v ≠ 0 := by first | exact .inr (by assumption) | exact .inl (by assumption) | omega
      rw [snd_noR (by omega) (by omega) hhd hv hno]
      exact AfterR.fin hM1 hL hl
    first | (simp only [decide_eq_true_eq, decide_eq_false_iff_not, Bool.not_eq_true', Bool.not_eq_false', ne_eq, Decidable.not_not, Bool.not_eq_true, Bool.not_eq_false] at q112) | (dsimp only at q112) | skip
    have hk0 : kd fh = 0 ∧ kd v = 0 := by simp_all
    obtain rfl := rnum_of hhd hk0.1
    obtain rfl := rnum_of hv hk0.2
    rw [snd_num (by omega) (by omega)]
    have hbd := prim_bd hT hi0 hi1 hk8
    have hpk := prm_kind ((el L i).getD 4 0) hn' vn
    refine At.drawE ((Bks.cons o1_8.blk (Bks.cons o0_0.blk (Bks.cons hmo.blk Bks.nil)))) [10, 15] mixed rfl rfl ?_
    refine RegD.tpur (i := 0) rfl rfl rfl rfl (by kernel_rfl) (Pur.fld _ fo37_4 rfl) ?_
    refine RegD.takeT (i := 1) rfl rfl rfl rfl (by kernel_rfl) (Bks.cons o1_8.blk (Bks.cons o0_0.blk (Bks.cons hmo.blk Bks.nil))) (fun H hS => Lod.ld sc3 rfl hS.hd (hat 4 (by decide))) ?_
    refine RegD.tpur (i := 2) rfl rfl rfl rfl (by kernel_rfl) (Pur.fld _ fo76_3 rfl) ?_
    refine RegD.tpur (i := 3) rfl rfl rfl rfl (by kernel_rfl) (Pur.fld _ fo58_1 rfl) ?_
    refine RegD.takeT (i := 4) rfl rfl rfl rfl (by kernel_rfl) (Bks.cons o1_8.blk (Bks.cons o0_0.blk (Bks.cons hmo.blk Bks.nil))) (fun H hS => Lod.ld sc3 rfl hS.tl.hd rfl) ?_
    refine RegD.tpur (i := 5) rfl rfl rfl rfl (by kernel_rfl) (Pur.mv rfl) ?_
    refine RegD.tpur (i := 6) rfl rfl rfl rfl (by kernel_rfl) (Pur.nilc rfl) ?_
    refine RegD.tpur (i := 7) rfl rfl rfl rfl (by kernel_rfl) (Pur.fld _ fo60_5 rfl) ?_
    refine RegD.tpur (i := 8) rfl rfl rfl rfl (by kernel_rfl) (Pur.fld _ fo58_1 rfl) ?_
    refine RegD.takeT (i := 9) rfl rfl rfl rfl (by kernel_rfl) (Bks.cons o1_8.blk (Bks.cons o0_0.blk (Bks.cons hmo.blk Bks.nil))) (fun H hS => Lod.ld sc3 rfl hS.tl.tl.hd rfl) ?_
    refine RegD.fork2 (i := 10) (j := 14) (by kernel_rfl) ?_ ?_
    · refine RegOp.one (i := 10) rfl rfl rfl rfl (Does.call rfl (primR_ok _ _ _ hbd.1 hbd.2 _)) ?_
      rintro _ H28_10 ⟨rfl, hE28_10⟩
      have z28_10 := hE28_10.lt
      first | replace hL := hL.ext hE28_10 | skip
      replace hM := hM.ext hE28_10
      replace hmo := hmo.ext hE28_10
      replace hB := hB.ext hE28_10
      replace o0_0 := o0_0.ext hE28_10
      replace o1_8 := o1_8.ext hE28_10
      refine ⟨fun h => (by cases h), ?_⟩
      refine RegD.tpur (i := 11) rfl rfl rfl rfl (by kernel_rfl) (Pur.mv rfl) ?_
      refine RegD.tpur (i := 12) rfl rfl rfl rfl (by kernel_rfl) (Pur.ext rfl rfl) ?_
      refine RegD.tpur (i := 13) rfl rfl rfl rfl (by kernel_rfl) (Pur.ext rfl rfl) ?_
      refine RegD.one (i := 14) (by kernel_rfl) rfl rfl rfl rfl (Does.alloc zc58) ?_
      rintro _ H28_14 ⟨rfl, hn28_14⟩
      have z28_14 := hn28_14.size
      first | replace hL := hL.ext hn28_14.ext | skip
      replace hM := hM.ext hn28_14.ext
      replace hmo := hmo.ext hn28_14.ext
      replace hB := hB.ext hn28_14.ext
      replace o0_0 := o0_0.ext hn28_14.ext
      replace o1_8 := o1_8.ext hn28_14.ext
      have o28_14 := hn28_14.own
      refine ⟨fun _ _ => (Bks.cons o1_8.blk (Bks.cons o0_0.blk (Bks.cons hmo.blk Bks.nil))), ?_⟩
      generalize hpr : prm ((el L i).getD 4 0) hn' vn = pr at *
      have hc7 : (if pr.1 = 3 then zv7 else [I pr.1, I pr.2, I 0, nilp, nils, nilp, nilp]).length = 7 := by split <;> rfl
      have hc1' : ones (if pr.1 = 3 then zv7 else [I pr.1, I pr.2, I 0, nilp, nils, nilp, nilp]) = true := by split <;> rfl
      refine RegD.one0 (i := 15) (by kernel_rfl) rfl rfl rfl (Does.stn ag58 rfl rfl hc1' hc7 o28_14 (by simp)) ?_
      rintro _ H28_15 hu28_15
      have z28_15 := hu28_15.size
      first | replace hL := hL.upw hu28_15 (by omega) | skip
      replace hM := hM.upw hu28_15 (by omega)
      replace hmo := hmo.upw hu28_15 (by omega)
      replace hB := hB.upw hu28_15 (by omega)
      replace o0_0 := o0_0.upw hu28_15 (by omega)
      replace o1_8 := o1_8.upw hu28_15 (by omega)
      replace o28_14 := hu28_15.own
      first | rw [over (by first | rfl | (simp; done))] at o28_14 | skip
      refine ⟨fun h => (by cases h), ?_⟩
      refine RegD.tpur (i := 16) rfl rfl rfl rfl (by kernel_rfl) (Pur.asg rfl) ?_
      refine RegD.done (by kernel_rfl) ?_
      refine At.region rfl rfl ?_
      refine Reg.pur rfl rfl rfl rfl (Pur.mv rfl) ?_
      refine Reg.pur rfl rfl rfl rfl (Pur.geq rfl rfl) ?_
      refine Reg.nil ?_
      refine At.cond rfl rfl (fun q130 => ?_) (fun q130 => ?_)
      · first | (simp only [decide_eq_true_eq, decide_eq_false_iff_not, Bool.not_eq_true', Bool.not_eq_false', ne_eq, Decidable.not_not, Bool.not_eq_true, Bool.not_eq_false] at q130) | (dsimp only at q130) | skip
        refine At.region rfl rfl ?_
        refine Reg.pur rfl rfl rfl rfl (Pur.mv rfl) ?_
        refine Reg.pur rfl rfl rfl rfl (Pur.mv rfl) ?_

        refine Reg.op rfl rfl rfl rfl (Does.call rfl (endR_ok hM _ _)) ?_
        rintro _ H30_2 ⟨hM1, hbut30_2⟩
        have z30_2 := hbut30_2.lt
        first | replace hL := hL.via hbut30_2 (by first | omega | (intro g; omega) | (intro g hg; omega) | (intro g hg h; omega)) | skip
        replace hB := hB.via hbut30_2 (by first | omega | (intro g; omega) | (intro g hg; omega) | (intro g hg h; omega))
        replace o0_0 := o0_0.via hbut30_2 (by first | omega | (intro g; omega) | (intro g hg; omega) | (intro g hg h; omega))
        replace o1_8 := o1_8.via hbut30_2 (by first | omega | (intro g; omega) | (intro g hg; omega) | (intro g hg h; omega))
        replace o28_14 := o28_14.via hbut30_2 (by first | omega | (intro g; omega) | (intro g hg; omega) | (intro g hg h; omega))
        refine Reg.nil ?_
        have hp3 : pr.1 = 3 := by (by_cases hp3 : pr.1 = 3; exact hp3; rw [if_neg hp3] at q130; omega)
        have hgv := givesR_ok hM1 hc7 hc1'
        refine At.region rfl rfl ?_
        refine Reg.pur rfl rfl rfl rfl (Pur.mv rfl) ?_
        refine Reg.lod rfl rfl rfl rfl (Lod.ldn ag58 rfl o28_14.blk (whole hc7) hc7) ?_

        refine Reg.op rfl rfl rfl rfl (Does.call rfl (hgv)) ?_
        rintro _ H31_2 ⟨hM3, hbut31_2⟩
        have z31_2 := hbut31_2.lt
        first | replace hL := hL.via hbut31_2 (by first | omega | (intro g; omega) | (intro g hg; omega) | (intro g hg h; omega)) | skip
        replace hB := hB.via hbut31_2 (by first | omega | (intro g; omega) | (intro g hg; omega) | (intro g hg h; omega))
        replace o0_0 := o0_0.via hbut31_2 (by first | omega | (intro g; omega) | (intro g hg; omega) | (intro g hg h; omega))
        replace o1_8 := o1_8.via hbut31_2 (by first | omega | (intro g; omega) | (intro g hg; omega) | (intro g hg h; omega))
        replace o28_14 := o28_14.via hbut31_2 (by first | omega | (intro g; omega) | (intro g hg; omega) | (intro g hg h; omega))
        refine Reg.nil ?_
        refine At.fall rfl Try.func35 rfl ?_
        simp only [if_pos hp3] at hM3 ⊢
        exact AfterR.fin hM3 hL hl
      first | (simp only [decide_eq_true_eq, decide_eq_false_iff_not, Bool.not_eq_true', Bool.not_eq_false', ne_eq, Decidable.not_not, Bool.not_eq_true, Bool.not_eq_false] at q130) | (dsimp only at q130) | skip
      have hp3 : ¬ pr.1 = 3 := by intro hp3; rw [if_pos hp3] at q130; omega
      have hgv := givesR_ok hM hc7 hc1'
      refine At.region rfl rfl ?_
      refine Reg.pur rfl rfl rfl rfl (Pur.mv rfl) ?_
      refine Reg.lod rfl rfl rfl rfl (Lod.ldn ag58 rfl o28_14.blk (whole hc7) hc7) ?_

      refine Reg.op rfl rfl rfl rfl (Does.call rfl (hgv)) ?_
      rintro _ H31_2 ⟨hM3, hbut31_2⟩
      have z31_2 := hbut31_2.lt
      first | replace hL := hL.via hbut31_2 (by first | omega | (intro g; omega) | (intro g hg; omega) | (intro g hg h; omega)) | skip
      replace hB := hB.via hbut31_2 (by first | omega | (intro g; omega) | (intro g hg; omega) | (intro g hg h; omega))
      replace o0_0 := o0_0.via hbut31_2 (by first | omega | (intro g; omega) | (intro g hg; omega) | (intro g hg h; omega))
      replace o1_8 := o1_8.via hbut31_2 (by first | omega | (intro g; omega) | (intro g hg; omega) | (intro g hg h; omega))
      replace o28_14 := o28_14.via hbut31_2 (by first | omega | (intro g; omega) | (intro g hg; omega) | (intro g hg h; omega))
      refine Reg.nil ?_
      refine At.fall rfl Try.func35 rfl ?_
      rw [if_neg hp3]
      rw [if_neg hp3] at hM3
      rcases hpk.resolve_left (fun h => hp3 h.1) with hz | hz
      · rw [hz] at hM3 ⊢; exact AfterR.gv hM3 hL (by simp only [rqV])
      · rw [hz] at hM3 ⊢; exact AfterR.gv hM3 hL (by simp only [rqV])
    refine RegOp.one (i := 14) rfl rfl rfl rfl (Does.alloc zc58) ?_
    rintro _ H28_14 ⟨rfl, hn28_14⟩
    have z28_14 := hn28_14.size
    first | replace hL := hL.ext hn28_14.ext | skip
    replace hM := hM.ext hn28_14.ext
    replace hmo := hmo.ext hn28_14.ext
    replace hB := hB.ext hn28_14.ext
    replace o0_0 := o0_0.ext hn28_14.ext
    replace o1_8 := o1_8.ext hn28_14.ext
    have o28_14 := hn28_14.own
    refine ⟨fun _ _ => (Bks.cons o1_8.blk (Bks.cons o0_0.blk (Bks.cons hmo.blk Bks.nil))), ?_⟩
    refine RegD.one (i := 10) (by kernel_rfl) rfl rfl rfl rfl (Does.call rfl (primR_ok _ _ _ hbd.1 hbd.2 _)) ?_
    rintro _ H28_10 ⟨rfl, hE28_10⟩
    have z28_10 := hE28_10.lt
    first | replace hL := hL.ext hE28_10 | skip
    replace hM := hM.ext hE28_10
    replace hmo := hmo.ext hE28_10
    replace hB := hB.ext hE28_10
    replace o0_0 := o0_0.ext hE28_10
    replace o1_8 := o1_8.ext hE28_10
    replace o28_14 := o28_14.ext hE28_10
    refine ⟨fun h => (by cases h), ?_⟩
    refine RegD.tpur (i := 11) rfl rfl rfl rfl (by kernel_rfl) (Pur.mv rfl) ?_
    refine RegD.tpur (i := 12) rfl rfl rfl rfl (by kernel_rfl) (Pur.ext rfl rfl) ?_
    refine RegD.tpur (i := 13) rfl rfl rfl rfl (by kernel_rfl) (Pur.ext rfl rfl) ?_
    generalize hpr : prm ((el L i).getD 4 0) hn' vn = pr at *
    have hc7 : (if pr.1 = 3 then zv7 else [I pr.1, I pr.2, I 0, nilp, nils, nilp, nilp]).length = 7 := by split <;> rfl
    have hc1' : ones (if pr.1 = 3 then zv7 else [I pr.1, I pr.2, I 0, nilp, nils, nilp, nilp]) = true := by split <;> rfl
    refine RegD.one0 (i := 15) (by kernel_rfl) rfl rfl rfl (Does.stn ag58 rfl rfl hc1' hc7 o28_14 (by simp)) ?_
    rintro _ H28_15 hu28_15
    have z28_15 := hu28_15.size
    first | replace hL := hL.upw hu28_15 (by omega) | skip
    replace hM := hM.upw hu28_15 (by omega)
    replace hmo := hmo.upw hu28_15 (by omega)
    replace hB := hB.upw hu28_15 (by omega)
    replace o0_0 := o0_0.upw hu28_15 (by omega)
    replace o1_8 := o1_8.upw hu28_15 (by omega)
    replace o28_14 := hu28_15.own
    first | rw [over (by first | rfl | (simp; done))] at o28_14 | skip
    refine ⟨fun h => (by cases h), ?_⟩
    refine RegD.tpur (i := 16) rfl rfl rfl rfl (by kernel_rfl) (Pur.asg rfl) ?_
    refine RegD.done (by kernel_rfl) ?_
    refine At.region rfl rfl ?_
    refine Reg.pur rfl rfl rfl rfl (Pur.mv rfl) ?_
    refine Reg.pur rfl rfl rfl rfl (Pur.geq rfl rfl) ?_
    refine Reg.nil ?_
    refine At.cond rfl rfl (fun q130 => ?_) (fun q130 => ?_)
    · first | (simp only [decide_eq_true_eq, decide_eq_false_iff_not, Bool.not_eq_true', Bool.not_eq_false', ne_eq, Decidable.not_not, Bool.not_eq_true, Bool.not_eq_false] at q130) | (dsimp only at q130) | skip
      refine At.region rfl rfl ?_
      refine Reg.pur rfl rfl rfl rfl (Pur.mv rfl) ?_
      refine Reg.pur rfl rfl rfl rfl (Pur.mv rfl) ?_

      refine Reg.op rfl rfl rfl rfl (Does.call rfl (endR_ok hM _ _)) ?_
      rintro _ H30_2 ⟨hM1, hbut30_2⟩
      have z30_2 := hbut30_2.lt
      first | replace hL := hL.via hbut30_2 (by first | omega | (intro g; omega) | (intro g hg; omega) | (intro g hg h; omega)) | skip
      replace hB := hB.via hbut30_2 (by first | omega | (intro g; omega) | (intro g hg; omega) | (intro g hg h; omega))
      replace o0_0 := o0_0.via hbut30_2 (by first | omega | (intro g; omega) | (intro g hg; omega) | (intro g hg h; omega))
      replace o1_8 := o1_8.via hbut30_2 (by first | omega | (intro g; omega) | (intro g hg; omega) | (intro g hg h; omega))
      replace o28_14 := o28_14.via hbut30_2 (by first | omega | (intro g; omega) | (intro g hg; omega) | (intro g hg h; omega))
      refine Reg.nil ?_
      have hp3 : pr.1 = 3 := by (by_cases hp3 : pr.1 = 3; exact hp3; rw [if_neg hp3] at q130; omega)
      have hgv := givesR_ok hM1 hc7 hc1'
      refine At.region rfl rfl ?_
      refine Reg.pur rfl rfl rfl rfl (Pur.mv rfl) ?_
      refine Reg.lod rfl rfl rfl rfl (Lod.ldn ag58 rfl o28_14.blk (whole hc7) hc7) ?_

      refine Reg.op rfl rfl rfl rfl (Does.call rfl (hgv)) ?_
      rintro _ H31_2 ⟨hM3, hbut31_2⟩
      have z31_2 := hbut31_2.lt
      first | replace hL := hL.via hbut31_2 (by first | omega | (intro g; omega) | (intro g hg; omega) | (intro g hg h; omega)) | skip
      replace hB := hB.via hbut31_2 (by first | omega | (intro g; omega) | (intro g hg; omega) | (intro g hg h; omega))
      replace o0_0 := o0_0.via hbut31_2 (by first | omega | (intro g; omega) | (intro g hg; omega) | (intro g hg h; omega))
      replace o1_8 := o1_8.via hbut31_2 (by first | omega | (intro g; omega) | (intro g hg; omega) | (intro g hg h; omega))
      replace o28_14 := o28_14.via hbut31_2 (by first | omega | (intro g; omega) | (intro g hg; omega) | (intro g hg h; omega))
      refine Reg.nil ?_
      refine At.fall rfl Try.func35 rfl ?_
      simp only [if_pos hp3] at hM3 ⊢
      exact AfterR.fin hM3 hL hl
    first | (simp only [decide_eq_true_eq, decide_eq_false_iff_not, Bool.not_eq_true', Bool.not_eq_false', ne_eq, Decidable.not_not, Bool.not_eq_true, Bool.not_eq_false] at q130) | (dsimp only at q130) | skip
    have hp3 : ¬ pr.1 = 3 := by intro hp3; rw [if_pos hp3] at q130; omega
    have hgv := givesR_ok hM hc7 hc1'
    refine At.region rfl rfl ?_
    refine Reg.pur rfl rfl rfl rfl (Pur.mv rfl) ?_
    refine Reg.lod rfl rfl rfl rfl (Lod.ldn ag58 rfl o28_14.blk (whole hc7) hc7) ?_

    refine Reg.op rfl rfl rfl rfl (Does.call rfl (hgv)) ?_
    rintro _ H31_2 ⟨hM3, hbut31_2⟩
    have z31_2 := hbut31_2.lt
    first | replace hL := hL.via hbut31_2 (by first | omega | (intro g; omega) | (intro g hg; omega) | (intro g hg h; omega)) | skip
    replace hB := hB.via hbut31_2 (by first | omega | (intro g; omega) | (intro g hg; omega) | (intro g hg h; omega))
    replace o0_0 := o0_0.via hbut31_2 (by first | omega | (intro g; omega) | (intro g hg; omega) | (intro g hg h; omega))
    replace o1_8 := o1_8.via hbut31_2 (by first | omega | (intro g; omega) | (intro g hg; omega) | (intro g hg h; omega))
    replace o28_14 := o28_14.via hbut31_2 (by first | omega | (intro g; omega) | (intro g hg; omega) | (intro g hg h; omega))
    refine Reg.nil ?_
    refine At.fall rfl Try.func35 rfl ?_
    rw [if_neg hp3]
    rw [if_neg hp3] at hM3
    rcases hpk.resolve_left (fun h => hp3 h.1) with hz | hz
    · rw [hz] at hM3 ⊢; exact AfterR.gv hM3 hL (by simp only [rqV])
    · rw [hz] at hM3 ⊢; exact AfterR.gv hM3 hL (by simp only [rqV])
  first | (simp only [decide_eq_true_eq, decide_eq_false_iff_not, Bool.not_eq_true', Bool.not_eq_false', ne_eq, Decidable.not_not, Bool.not_eq_true, Bool.not_eq_false] at q99) | (dsimp only at q99) | skip
  refine At.region rfl rfl ?_
  refine Reg.pur rfl rfl rfl rfl (Pur.eql rfl rfl) ?_
  refine Reg.pur rfl rfl rfl rfl (Pur.asg rfl) ?_
  refine Reg.nil ?_
  refine At.cond rfl rfl (fun q137 => ?_) (fun q137 => ?_)
  · first | (simp only [decide_eq_true_eq, decide_eq_false_iff_not, Bool.not_eq_true', Bool.not_eq_false', ne_eq, Decidable.not_not, Bool.not_eq_true, Bool.not_eq_false] at q137) | (dsimp only at q137) | skip
    subst q137
    obtain ⟨rfl, hfk, h5, h12⟩ := fst_of hT hok hkk (by omega)
    obtain rfl : i = fi := hni (by decide)
    have hkd := (fkn_inv h5 h12).2.2.2.2.1 hfk
    rw [show backM L fr ⟨0, i, fe, fh⟩ v = fstM ((el L i).getD 0 0) (el L i) i fr fe fh v from rfl, hkd]
    refine At.region rfl rfl ?_
    refine Reg.pur rfl rfl rfl rfl (Pur.mv rfl) ?_
    refine Reg.pur rfl rfl rfl rfl (Pur.nilc rfl) ?_
    refine Reg.pur rfl rfl rfl rfl (Pur.fld _ fo60_5 rfl) ?_
    refine Reg.lod rfl rfl rfl rfl (Lod.ldn ag58 rfl hmo.blk rfl rfl) ?_
    refine Reg.op rfl rfl rfl rfl (Does.alloc zc58) ?_
    rintro _ H33_4 ⟨rfl, hn33_4⟩
    have z33_4 := hn33_4.size
    first | replace hL := hL.ext hn33_4.ext | skip
    replace hM := hM.ext hn33_4.ext
    replace hmo := hmo.ext hn33_4.ext
    replace hB := hB.ext hn33_4.ext
    replace o0_0 := o0_0.ext hn33_4.ext
    replace o1_8 := o1_8.ext hn33_4.ext
    have o33_4 := hn33_4.own
    refine Reg.op0 rfl rfl rfl (Does.stn ag58 rfl rfl rfl rfl o33_4 (by simp)) ?_
    rintro _ H33_5 hu33_5
    have z33_5 := hu33_5.size
    first | replace hL := hL.upw hu33_5 (by omega) | skip
    replace hM := hM.upw hu33_5 (by omega)
    replace hmo := hmo.upw hu33_5 (by omega)
    replace hB := hB.upw hu33_5 (by omega)
    replace o0_0 := o0_0.upw hu33_5 (by omega)
    replace o1_8 := o1_8.upw hu33_5 (by omega)
    replace o33_4 := hu33_5.own
    first | rw [over (by first | rfl | (simp; done))] at o33_4 | skip
    refine Reg.nil ?_
    refine At.region rfl rfl ?_
    refine Reg.pur rfl rfl rfl rfl (Pur.mv rfl) ?_
    refine Reg.pur rfl rfl rfl rfl (Pur.bld (cs := [_, _, _, _, _, _, _]) pl58 zc58 rfl rfl ⟨rfl, rfl, rfl, rfl, rfl, rfl, rfl, rfl⟩) ?_
    have hMa := hM.add o33_4.blk (by omega)
    have hle := gset_le (b := H1_9.size) (c := [I (kd v), I vn, I vi, .pointer vp, nils, .pointer vq, .pointer vr]) hM.fz (by omega)

    refine Reg.op rfl rfl rfl rfl (Does.call rfl (givesR_ok hMa (vc' := [I 5, I 0, I 0, nilp, nils, ptr H1_9.size 0, nilp]) rfl rfl)) ?_
    rintro _ H34_2 ⟨hM3, hbut34_2⟩
    have z34_2 := hbut34_2.lt
    first | replace hL := hL.via hbut34_2 (by first | omega | (intro g; omega) | (intro g hg; omega) | (intro g hg h; omega)) | skip
    replace hB := hB.via hbut34_2 (by first | omega | (intro g; omega) | (intro g hg; omega) | (intro g hg h; omega))
    replace o0_0 := o0_0.via hbut34_2 (by first | omega | (intro g; omega) | (intro g hg; omega) | (intro g hg h; omega))
    replace o1_8 := o1_8.via hbut34_2 (by first | omega | (intro g; omega) | (intro g hg; omega) | (intro g hg h; omega))
    replace o33_4 := o33_4.via hbut34_2 (by first | omega | (intro g; omega) | (intro g hg; omega) | (intro g hg h; omega))
    refine Reg.nil ?_
    refine At.fall rfl Try.func35 rfl ?_
    exact AfterR.gv hM3 hL (by simp only [rqV]; exact ⟨_, _, rfl, gset_at _ _ _, rqV_mono hle _ _ hv⟩)
  first | (simp only [decide_eq_true_eq, decide_eq_false_iff_not, Bool.not_eq_true', Bool.not_eq_false', ne_eq, Decidable.not_not, Bool.not_eq_true, Bool.not_eq_false] at q137) | (dsimp only at q137) | skip
  refine At.region rfl rfl ?_
  refine Reg.pur rfl rfl rfl rfl (Pur.eql rfl rfl) ?_
  refine Reg.pur rfl rfl rfl rfl (Pur.asg rfl) ?_
  refine Reg.nil ?_
  refine At.cond rfl rfl (fun q146 => ?_) (fun q146 => ?_)
  · first | (simp only [decide_eq_true_eq, decide_eq_false_iff_not, Bool.not_eq_true', Bool.not_eq_false', ne_eq, Decidable.not_not, Bool.not_eq_true, Bool.not_eq_false] at q146) | (dsimp only at q146) | skip
    subst q146
    obtain ⟨hw1, hk8⟩ := (fk_second hok).2 hkk
    dsimp only at hw1 hk8
    subst hw1
    obtain rfl : i = fi := hni (by decide)
    replace hhd := hhd (by decide)
    rw [show backM L fr ⟨1, i, fe, fh⟩ v = sndM L ((el L i).getD 0 0) (el L i) fr fh v from rfl, hk8]
    refine At.drawE ((Bks.cons o0_0.blk (Bks.cons hmo.blk Bks.nil))) [8, 9] mixed rfl rfl ?_
    refine RegD.tpur (i := 0) rfl rfl rfl rfl (by kernel_rfl) (Pur.fld _ fo76_3 rfl) ?_
    refine RegD.takeT (i := 1) rfl rfl rfl rfl (by kernel_rfl) (Bks.cons o0_0.blk (Bks.cons hmo.blk Bks.nil)) (fun H hS => Lod.ldn ag58 rfl hS.hd rfl rfl) ?_
    refine RegD.tpur (i := 2) rfl rfl rfl rfl (by kernel_rfl) (Pur.mv rfl) ?_
    refine RegD.tpur (i := 3) rfl rfl rfl rfl (by kernel_rfl) (Pur.nilc rfl) ?_
    refine RegD.tpur (i := 4) rfl rfl rfl rfl (by kernel_rfl) (Pur.fld _ fo60_5 rfl) ?_
    refine RegD.takeT (i := 5) rfl rfl rfl rfl (by kernel_rfl) (Bks.cons o0_0.blk (Bks.cons hmo.blk Bks.nil)) (fun H hS => Lod.ldn ag58 rfl hS.tl.hd rfl rfl) ?_
    refine RegD.fork2 (i := 6) (j := 7) (by kernel_rfl) ?_ ?_
    · refine RegOp.one (i := 6) rfl rfl rfl rfl (Does.alloc zc58) ?_
      rintro _ H36_6 ⟨rfl, hn36_6⟩
      have z36_6 := hn36_6.size
      first | replace hL := hL.ext hn36_6.ext | skip
      replace hM := hM.ext hn36_6.ext
      replace hmo := hmo.ext hn36_6.ext
      replace hB := hB.ext hn36_6.ext
      replace o0_0 := o0_0.ext hn36_6.ext
      replace o1_8 := o1_8.ext hn36_6.ext
      have o36_6 := hn36_6.own
      refine ⟨fun _ _ => (Bks.cons o0_0.blk (Bks.cons hmo.blk Bks.nil)), ?_⟩
      refine RegD.one (i := 7) (by kernel_rfl) rfl rfl rfl rfl (Does.alloc zc58) ?_
      rintro _ H36_7 ⟨rfl, hn36_7⟩
      have z36_7 := hn36_7.size
      first | replace hL := hL.ext hn36_7.ext | skip
      replace hM := hM.ext hn36_7.ext
      replace hmo := hmo.ext hn36_7.ext
      replace hB := hB.ext hn36_7.ext
      replace o0_0 := o0_0.ext hn36_7.ext
      replace o1_8 := o1_8.ext hn36_7.ext
      replace o36_6 := o36_6.ext hn36_7.ext
      have o36_7 := hn36_7.own
      refine ⟨fun _ _ => (Bks.cons o0_0.blk (Bks.cons hmo.blk Bks.nil)), ?_⟩
      refine RegD.one0 (i := 8) (by kernel_rfl) rfl rfl rfl (Does.stn ag58 rfl rfl hc1 rfl o36_6 (by simp)) ?_
      rintro _ H36_8 hu36_8
      have z36_8 := hu36_8.size
      first | replace hL := hL.upw hu36_8 (by omega) | skip
      replace hM := hM.upw hu36_8 (by omega)
      replace hmo := hmo.upw hu36_8 (by omega)
      replace hB := hB.upw hu36_8 (by omega)
      replace o0_0 := o0_0.upw hu36_8 (by omega)
      replace o1_8 := o1_8.upw hu36_8 (by omega)
      replace o36_7 := o36_7.upw hu36_8 (by omega)
      replace o36_6 := hu36_8.own
      first | rw [over (by first | rfl | (simp; done))] at o36_6 | skip
      refine ⟨fun h => (by cases h), ?_⟩
      refine RegD.one0 (i := 9) (by kernel_rfl) rfl rfl rfl (Does.stn ag58 rfl rfl rfl rfl o36_7 (by simp)) ?_
      rintro _ H36_9 hu36_9
      have z36_9 := hu36_9.size
      first | replace hL := hL.upw hu36_9 (by omega) | skip
      replace hM := hM.upw hu36_9 (by omega)
      replace hmo := hmo.upw hu36_9 (by omega)
      replace hB := hB.upw hu36_9 (by omega)
      replace o0_0 := o0_0.upw hu36_9 (by omega)
      replace o1_8 := o1_8.upw hu36_9 (by omega)
      replace o36_6 := o36_6.upw hu36_9 (by omega)
      replace o36_7 := hu36_9.own
      first | rw [over (by first | rfl | (simp; done))] at o36_7 | skip
      refine ⟨fun h => (by cases h), ?_⟩
      refine RegD.done (by kernel_rfl) ?_
      refine At.region rfl rfl ?_
      refine Reg.pur rfl rfl rfl rfl (Pur.mv rfl) ?_
      refine Reg.pur rfl rfl rfl rfl (Pur.fld _ fo37_4 rfl) ?_
      refine Reg.lod rfl rfl rfl rfl (Lod.ld sc3 rfl o1_8.blk (hat 4 (by decide))) ?_
      refine Reg.pur rfl rfl rfl rfl (Pur.bld (cs := [_, _, _, _, _, _, _]) pl58 zc58 rfl rfl ⟨rfl, rfl, rfl, rfl, rfl, rfl, rfl, rfl⟩) ?_
      obtain ⟨Gn, hle, hg1, hg2, hMa⟩ := hM.add2 o36_6.blk o36_7.blk (by omega) (by omega) (by omega)

      refine Reg.op rfl rfl rfl rfl (Does.call rfl (givesR_ok hMa rfl rfl)) ?_
      rintro _ H37_4 ⟨hM3, hbut37_4⟩
      have z37_4 := hbut37_4.lt
      first | replace hL := hL.via hbut37_4 (by first | omega | (intro g; omega) | (intro g hg; omega) | (intro g hg h; omega)) | skip
      replace hB := hB.via hbut37_4 (by first | omega | (intro g; omega) | (intro g hg; omega) | (intro g hg h; omega))
      replace o0_0 := o0_0.via hbut37_4 (by first | omega | (intro g; omega) | (intro g hg; omega) | (intro g hg h; omega))
      replace o1_8 := o1_8.via hbut37_4 (by first | omega | (intro g; omega) | (intro g hg; omega) | (intro g hg h; omega))
      replace o36_6 := o36_6.via hbut37_4 (by first | omega | (intro g; omega) | (intro g hg; omega) | (intro g hg h; omega))
      replace o36_7 := o36_7.via hbut37_4 (by first | omega | (intro g; omega) | (intro g hg; omega) | (intro g hg h; omega))
      refine Reg.nil ?_
      refine At.fall rfl Try.func35 rfl ?_
      rw [show sndM L 10 (el L i) fr fh v = .go (.gv fr (.op ((el L i).getD 4 0) fh v)) from rfl]
      exact AfterR.gv hM3 hL (by simp only [rqV]; exact ⟨_, _, _, _, rfl, hg1, rqV_mono hle _ _ hhd, hg2, rqV_mono hle _ _ hv⟩)
    refine RegOp.one (i := 7) rfl rfl rfl rfl (Does.alloc zc58) ?_
    rintro _ H36_7 ⟨rfl, hn36_7⟩
    have z36_7 := hn36_7.size
    first | replace hL := hL.ext hn36_7.ext | skip
    replace hM := hM.ext hn36_7.ext
    replace hmo := hmo.ext hn36_7.ext
    replace hB := hB.ext hn36_7.ext
    replace o0_0 := o0_0.ext hn36_7.ext
    replace o1_8 := o1_8.ext hn36_7.ext
    have o36_7 := hn36_7.own
    refine ⟨fun _ _ => (Bks.cons o0_0.blk (Bks.cons hmo.blk Bks.nil)), ?_⟩
    refine RegD.one (i := 6) (by kernel_rfl) rfl rfl rfl rfl (Does.alloc zc58) ?_
    rintro _ H36_6 ⟨rfl, hn36_6⟩
    have z36_6 := hn36_6.size
    first | replace hL := hL.ext hn36_6.ext | skip
    replace hM := hM.ext hn36_6.ext
    replace hmo := hmo.ext hn36_6.ext
    replace hB := hB.ext hn36_6.ext
    replace o0_0 := o0_0.ext hn36_6.ext
    replace o1_8 := o1_8.ext hn36_6.ext
    replace o36_7 := o36_7.ext hn36_6.ext
    have o36_6 := hn36_6.own
    refine ⟨fun _ _ => (Bks.cons o0_0.blk (Bks.cons hmo.blk Bks.nil)), ?_⟩
    refine RegD.one0 (i := 8) (by kernel_rfl) rfl rfl rfl (Does.stn ag58 rfl rfl hc1 rfl o36_6 (by simp)) ?_
    rintro _ H36_8 hu36_8
    have z36_8 := hu36_8.size
    first | replace hL := hL.upw hu36_8 (by omega) | skip
    replace hM := hM.upw hu36_8 (by omega)
    replace hmo := hmo.upw hu36_8 (by omega)
    replace hB := hB.upw hu36_8 (by omega)
    replace o0_0 := o0_0.upw hu36_8 (by omega)
    replace o1_8 := o1_8.upw hu36_8 (by omega)
    replace o36_7 := o36_7.upw hu36_8 (by omega)
    replace o36_6 := hu36_8.own
    first | rw [over (by first | rfl | (simp; done))] at o36_6 | skip
    refine ⟨fun h => (by cases h), ?_⟩
    refine RegD.one0 (i := 9) (by kernel_rfl) rfl rfl rfl (Does.stn ag58 rfl rfl rfl rfl o36_7 (by simp)) ?_
    rintro _ H36_9 hu36_9
    have z36_9 := hu36_9.size
    first | replace hL := hL.upw hu36_9 (by omega) | skip
    replace hM := hM.upw hu36_9 (by omega)
    replace hmo := hmo.upw hu36_9 (by omega)
    replace hB := hB.upw hu36_9 (by omega)
    replace o0_0 := o0_0.upw hu36_9 (by omega)
    replace o1_8 := o1_8.upw hu36_9 (by omega)
    replace o36_6 := o36_6.upw hu36_9 (by omega)
    replace o36_7 := hu36_9.own
    first | rw [over (by first | rfl | (simp; done))] at o36_7 | skip
    refine ⟨fun h => (by cases h), ?_⟩
    refine RegD.done (by kernel_rfl) ?_
    refine At.region rfl rfl ?_
    refine Reg.pur rfl rfl rfl rfl (Pur.mv rfl) ?_
    refine Reg.pur rfl rfl rfl rfl (Pur.fld _ fo37_4 rfl) ?_
    refine Reg.lod rfl rfl rfl rfl (Lod.ld sc3 rfl o1_8.blk (hat 4 (by decide))) ?_
    refine Reg.pur rfl rfl rfl rfl (Pur.bld (cs := [_, _, _, _, _, _, _]) pl58 zc58 rfl rfl ⟨rfl, rfl, rfl, rfl, rfl, rfl, rfl, rfl⟩) ?_
    obtain ⟨Gn, hle, hg1, hg2, hMa⟩ := hM.add2 o36_6.blk o36_7.blk (by omega) (by omega) (by omega)

    refine Reg.op rfl rfl rfl rfl (Does.call rfl (givesR_ok hMa rfl rfl)) ?_
    rintro _ H37_4 ⟨hM3, hbut37_4⟩
    have z37_4 := hbut37_4.lt
    first | replace hL := hL.via hbut37_4 (by first | omega | (intro g; omega) | (intro g hg; omega) | (intro g hg h; omega)) | skip
    replace hB := hB.via hbut37_4 (by first | omega | (intro g; omega) | (intro g hg; omega) | (intro g hg h; omega))
    replace o0_0 := o0_0.via hbut37_4 (by first | omega | (intro g; omega) | (intro g hg; omega) | (intro g hg h; omega))
    replace o1_8 := o1_8.via hbut37_4 (by first | omega | (intro g; omega) | (intro g hg; omega) | (intro g hg h; omega))
    replace o36_7 := o36_7.via hbut37_4 (by first | omega | (intro g; omega) | (intro g hg; omega) | (intro g hg h; omega))
    replace o36_6 := o36_6.via hbut37_4 (by first | omega | (intro g; omega) | (intro g hg; omega) | (intro g hg h; omega))
    refine Reg.nil ?_
    refine At.fall rfl Try.func35 rfl ?_
    rw [show sndM L 10 (el L i) fr fh v = .go (.gv fr (.op ((el L i).getD 4 0) fh v)) from rfl]
    exact AfterR.gv hM3 hL (by simp only [rqV]; exact ⟨_, _, _, _, rfl, hg1, rqV_mono hle _ _ hhd, hg2, rqV_mono hle _ _ hv⟩)
  first | (simp only [decide_eq_true_eq, decide_eq_false_iff_not, Bool.not_eq_true', Bool.not_eq_false', ne_eq, Decidable.not_not, Bool.not_eq_true, Bool.not_eq_false] at q146) | (dsimp only at q146) | skip
  refine At.region rfl rfl ?_
  refine Reg.pur rfl rfl rfl rfl (Pur.eql rfl rfl) ?_
  refine Reg.pur rfl rfl rfl rfl (Pur.asg rfl) ?_
  refine Reg.nil ?_
  refine At.cond rfl rfl (fun q159 => ?_) (fun q159 => ?_)
  · first | (simp only [decide_eq_true_eq, decide_eq_false_iff_not, Bool.not_eq_true', Bool.not_eq_false', ne_eq, Decidable.not_not, Bool.not_eq_true, Bool.not_eq_false] at q159) | (dsimp only at q159) | skip
    subst q159
    obtain ⟨rfl, hfk, h5, h12⟩ := fst_of hT hok hkk (by omega)
    obtain rfl : i = fi := hni (by decide)
    have hkd := (fkn_inv h5 h12).2.2.2.2.2.2.1 hfk
    refine At.region rfl rfl ?_
    refine Reg.pur rfl rfl rfl rfl (Pur.mv rfl) ?_
    refine Reg.lod rfl rfl rfl rfl (Lod.ldn ag76 rfl o0_0.blk (whole rfl) rfl) ?_
    refine Reg.lod rfl rfl rfl rfl (Lod.ldn ag37 rfl o1_8.blk (whole h9') h9') ?_
    have hcl := bindR_ok (i := i) (w := 11) (hd := fh) hT hM h9 rfl hc1 hen hv hl

    refine Reg.op rfl rfl rfl rfl (Does.call rfl (hcl)) ?_
    rintro _ H39_3 ⟨hbut39_3, hAf⟩
    have z39_3 := hbut39_3.lt
    first | replace hL := hL.via hbut39_3 (by first | omega | (intro g; omega) | (intro g hg; omega) | (intro g hg h; omega)) | skip
    replace hB := hB.via hbut39_3 (by first | omega | (intro g; omega) | (intro g hg; omega) | (intro g hg h; omega))
    replace o0_0 := o0_0.via hbut39_3 (by first | omega | (intro g; omega) | (intro g hg; omega) | (intro g hg h; omega))
    replace o1_8 := o1_8.via hbut39_3 (by first | omega | (intro g; omega) | (intro g hg; omega) | (intro g hg h; omega))
    refine Reg.nil ?_
    refine At.fall rfl Try.func35 rfl ?_
    rw [show backM L fr ⟨0, i, fe, fh⟩ v = fstM ((el L i).getD 0 0) (el L i) i fr fe fh v from rfl, hkd]
    exact ⟨hL.but, hAf⟩
  first | (simp only [decide_eq_true_eq, decide_eq_false_iff_not, Bool.not_eq_true', Bool.not_eq_false', ne_eq, Decidable.not_not, Bool.not_eq_true, Bool.not_eq_false] at q159) | (dsimp only at q159) | skip
  obtain rfl : k = 12 := by omega
  obtain ⟨rfl, hfk, h5, h12⟩ := fst_of hT hok hkk (by omega)
  obtain rfl : i = fi := hni (by decide)
  have hkd := (fkn_inv h5 h12).2.2.2.2.2.2.2 hfk
  refine At.region rfl rfl ?_
  refine Reg.pur rfl rfl rfl rfl (Pur.mv rfl) ?_
  refine Reg.lod rfl rfl rfl rfl (Lod.ldn ag76 rfl o0_0.blk (whole rfl) rfl) ?_
  refine Reg.lod rfl rfl rfl rfl (Lod.ldn ag37 rfl o1_8.blk (whole h9') h9') ?_
  have hcl := casesR_ok (i := i) (w := 12) (hd := fh) hT hM h9 rfl hc1 hen hv hl

  refine Reg.op rfl rfl rfl rfl (Does.call rfl (hcl)) ?_
  rintro _ H3_3 ⟨hbut3_3, hAf⟩
  have z3_3 := hbut3_3.lt
  first | replace hL := hL.via hbut3_3 (by first | omega | (intro g; omega) | (intro g hg; omega) | (intro g hg h; omega)) | skip
  replace hB := hB.via hbut3_3 (by first | omega | (intro g; omega) | (intro g hg; omega) | (intro g hg h; omega))
  replace o0_0 := o0_0.via hbut3_3 (by first | omega | (intro g; omega) | (intro g hg; omega) | (intro g hg h; omega))
  replace o1_8 := o1_8.via hbut3_3 (by first | omega | (intro g; omega) | (intro g hg; omega) | (intro g hg h; omega))
  refine Reg.nil ?_
  refine At.fall rfl Try.func35 rfl ?_
  rw [show backM L fr ⟨0, i, fe, fh⟩ v = fstM ((el L i).getD 0 0) (el L i) i fr fe fh v from rfl, hkd]
  exact ⟨hL.but, hAf⟩
end Go.Proofs.Ytjhkmebmbopfoaa
