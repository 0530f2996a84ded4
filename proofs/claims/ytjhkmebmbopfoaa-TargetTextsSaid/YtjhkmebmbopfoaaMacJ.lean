/-
  Chapter 21: a frame that is given its first child's value.
-/
import Derived.Test.YtjhkmebmbopfoaaMacI
namespace Go.Proofs.Ytjhkmebmbopfoaa
set_option linter.unusedSimpArgs false
set_option linter.unusedVariables false
set_option maxRecDepth 8000
set_option maxHeartbeats 2000000
open Go Go.Fx Go.Proofs
namespace FactsMacJ
theorem ag68 : ag Try.prog 68 = some 6 := by kernel_rfl
theorem es22 : esz Try.prog 22 = some 9 := by kernel_rfl
theorem fo37_0 : foff Try.prog 37 0 = some 0 := by kernel_rfl
theorem fo37_2 : foff Try.prog 37 2 = some 2 := by kernel_rfl
theorem fo37_3 : foff Try.prog 37 3 = some 3 := by kernel_rfl
theorem fo37_4 : foff Try.prog 37 4 = some 4 := by kernel_rfl
theorem fo37_5 : foff Try.prog 37 5 = some 5 := by kernel_rfl
theorem fo37_6 : foff Try.prog 37 6 = some 6 := by kernel_rfl
theorem fo37_7 : foff Try.prog 37 7 = some 7 := by kernel_rfl
theorem fo37_8 : foff Try.prog 37 8 = some 8 := by kernel_rfl
theorem fo51_0 : foff Try.prog 51 0 = some 0 := by kernel_rfl
theorem fo68_0 : foff Try.prog 68 0 = some 0 := by kernel_rfl
theorem fo68_1 : foff Try.prog 68 1 = some 1 := by kernel_rfl
theorem fo68_4 : foff Try.prog 68 4 = some 4 := by kernel_rfl
theorem fo68_5 : foff Try.prog 68 5 = some 5 := by kernel_rfl
theorem fo71_1 : foff Try.prog 71 1 = some 1 := by kernel_rfl
theorem fo71_2 : foff Try.prog 71 2 = some 2 := by kernel_rfl
theorem isPt48 : isPt Try.prog 48 = true := by kernel_rfl
theorem mixed : Try.prog.follows .mixedOrders = true := by kernel_rfl
theorem pl68 : places Try.prog 68 = some [(0, 1), (1, 1), (2, 1), (3, 1), (4, 1), (5, 1)] := by kernel_rfl
theorem pl71 : places Try.prog 71 = some [(0, 1), (1, 1), (2, 1), (3, 6)] := by kernel_rfl
theorem sc22 : sc Try.prog 22 = true := by kernel_rfl
theorem sc3 : sc Try.prog 3 = true := by kernel_rfl
theorem sc47 : sc Try.prog 47 = true := by kernel_rfl
theorem sc48 : sc Try.prog 48 = true := by kernel_rfl
theorem sc66 : sc Try.prog 66 = true := by kernel_rfl
theorem zc68 : zc Try.prog 68 = some [.int .i64 0, .int .i64 0, .int .i64 0, .pointer none, .pointer none, .pointer none] := by kernel_rfl
theorem zc71 : zc Try.prog 71 = some [.int .i64 0, .int .i64 0, .pointer none, .int .i64 0, .int .i64 0, .int .i64 0, .pointer none, .pointer none, .pointer none] := by kernel_rfl
end FactsMacJ
open FactsMacJ

variable {L : List (List Int)} {N : Value} {m B : Nat} {G : Gh} {s : Nat} {fr : List Fr} {A : Option Addr} {cap : Nat} {nd' : Int} {pe pv pd : Value}
/-- what comes of a frame, and its first child's value -/
def fstM (k : Int) (x : List Int) (node : Int) (fr : List Fr) (en hd v : T) : Ou :=
  if k = 5 ∨ k = 8 ∨ k = 10 then .go (.ev (⟨1, node, .nil, v⟩ :: fr) (x.getD 2 0) en)
  else if k = 6 then .go (.ev fr (x.getD 2 0) (.env v (x.getD 5 0) en))
  else if k = 7 then match v with
    | .tru n => if n = 1 then .go (.ev fr (x.getD 2 0) en) else .go (.ev fr (x.getD 3 0) en)
    | _ => .fin 5 0
  else if k = 9 then .go (.gv fr (.ret v))
  else if k = 11 then bindM x fr ⟨0, node, en, hd⟩ v
  else caseM x fr ⟨0, node, en, hd⟩ v
theorem fst_eq (node : Int) (en hd v : T) : firstM L fr ⟨0, node, en, hd⟩ v = fstM ((el L node).getD 0 0) (el L node) node fr en hd v := rfl
theorem if_no {x : List Int} {node : Int} {en hd v : T} (h : kp v ≠ 1) : fstM 7 x node fr en hd v = .fin 5 0 := by
  cases v <;> simp only [kp] at h <;> first | rfl | omega
/-- who binds on -/
def bOn (node : Int) (en : T) : T → Option T
  | .op _ _ two => some (.bnd node en two)
  | _ => none
def cOn (h : T) : T → Option T
  | .op _ _ two => match h with
    | .nil => none
    | h => some (.fwd two h)
  | _ => none
theorem bind_comp {x : List Int} {node : Int} {en hd v : T} : bindM x fr ⟨0, node, en, hd⟩ v = compM x fr en v (bOn node en v) := by
  cases v <;> rfl
theorem case_comp {x : List Int} {node : Int} {en hd v : T} (h : ∀ n one two, v = .op n one two → n ≠ x.getD 4 0) : caseM x fr ⟨0, node, en, hd⟩ v = compM x fr en v (cOn (findN en (x.getD 8 0)) v) := by
  cases v <;> try rfl
  rename_i n one two
  simp only [caseM, compM, cOn]
  rw [if_neg (h n one two rfl)]
  cases findN en (x.getD 8 0) <;> rfl
theorem case_own {x : List Int} {node : Int} {en hd : T} {n : Int} {one two : T} (h : n = x.getD 4 0) : caseM x fr ⟨0, node, en, hd⟩ (.op n one two) = .go (.ev fr (x.getD 3 0) (.env two (x.getD 7 0) (.env one (x.getD 6 0) en))) := by
  simp only [caseM]; rw [if_pos h]
theorem repF_sec {v : T} {c : List Value} {i : Int} (h : repV G v c) : repF G ⟨1, i, .nil, v⟩ (I 1 :: I i :: nilp :: c) :=
  ⟨nilp, c, rfl, repV_six h, repV_ones h, by simp only [repE], fun _ => h⟩
theorem After.from {a : Int} {H H1 H2 : Heap} {ou : Ou} (h : After L N m B a H1 ou H2) (hL : Chm m a H H1) : After L N m B a H ou H2 := ⟨hL.but.trans h.1, h.2⟩
theorem fnd_ptr {G : Gh} {en : T} {k : Int} {r : Value} (h : Fnd G en k r) : ∃ Ar, r = .pointer Ar ∧ (Ar.isNone = true → findN en k = .nil) ∧ (Ar.isNone = false → findN en k ≠ .nil ∧ repP G (findN en k) (.pointer Ar)) := by
  rcases h with ⟨h1, rfl⟩ | ⟨h1, h2⟩
  · exact ⟨none, rfl, fun _ => h1, fun h => by cases h⟩
  · obtain ⟨b, d, rfl, h3⟩ := h2
    exact ⟨_, rfl, (fun h => by cases h), fun _ => ⟨h1, b, d, rfl, h3⟩⟩
theorem firstP_ok {H : Heap} (hT : Tm L) (hM : Ms L N m B G s H fr A cap nd' pe pv nilp) {i w : Int} {en hd v : T} {p : Value} {fb : Nat} {hc' vc : List Value} (hn0 : 0 ≤ i) (hn1 : i < L.length) (hk : 5 ≤ (el L i).getD 0 0)
    (hfb : Blk H fb (I w :: I i :: p :: hc')) (hfm : fb ≠ m ∧ (fb : Int) ≠ ob A) (hen : repE G en p) (hv : repV G v vc) (hl : fr.length ≤ 4096) :
    Ret Try.prog 28 [ptr m 0, ptr fb 0, .agg vc.toArray] H (fun _ H' => After L N m B (ob A) H (firstM L fr ⟨0, i, en, hd⟩ v) H') := by
  obtain ⟨vn, vi, vp, vq, vr, rfl⟩ := repV_cells hv
  obtain ⟨Ap, rfl⟩ := repE_one hen
  obtain ⟨bn, on', capn, cn, rfl, hB, hbB, hc⟩ := hM.node hn0 hn1
  have hk12 := (hT.kind hn0 hn1).2
  have hL := Chm.refl m (ob A) H
  have zM := hM.lt
  rw [fst_eq]
  generalize hkk : (el L i).getD 0 0 = k at *
  have hc0 := hc 0 (by decide)
  rw [hkk] at hc0
  refine Ret.of_at (N := 180) Try.call28 Try.func28 rfl rfl rfl ?_
  have hE := Ext.refl H
  have z_hL := hL.lt
  have z_hM := hM.lt
  have z_hB := hB.lt
  have z_hfb := hfb.lt
  refine At.region rfl rfl ?_
  refine Reg.op rfl rfl rfl rfl (Does.box rfl rfl) ?_
  rintro _ H0_0 ⟨rfl, hn0_0⟩
  have z0_0 := hn0_0.size
  first | replace hL := hL.ext hn0_0.ext | skip
  replace hM := hM.ext hn0_0.ext
  replace hB := hB.ext hn0_0.ext
  replace hfb := hfb.ext hn0_0.ext
  have o0_0 := hn0_0.own
  refine Reg.nil ?_
  refine At.drawE ((Bks.cons hM.own.blk (Bks.cons hfb.blk Bks.nil))) [] mixed rfl rfl ?_
  refine RegD.tpur (i := 0) rfl rfl rfl rfl (by kernel_rfl) (Pur.mv rfl) ?_
  refine RegD.tpur (i := 1) rfl rfl rfl rfl (by kernel_rfl) (Pur.nilc rfl) ?_
  refine RegD.tpur (i := 2) rfl rfl rfl rfl (by kernel_rfl) (Pur.fld _ fo51_0 rfl) ?_
  refine RegD.take (i := 3) rfl rfl rfl rfl (by kernel_rfl) (Bks.cons hM.own.blk (Bks.cons hfb.blk Bks.nil)) (fun H hS => Lod.ld sc22 rfl hS.hd rfl) ?_
  refine RegD.tpur (i := 4) rfl rfl rfl rfl (by kernel_rfl) (Pur.mv rfl) ?_
  refine RegD.tpur (i := 5) rfl rfl rfl rfl (by kernel_rfl) (Pur.nilc rfl) ?_
  refine RegD.tpur (i := 6) rfl rfl rfl rfl (by kernel_rfl) (Pur.fld _ fo71_1 rfl) ?_
  refine RegD.take (i := 7) rfl rfl rfl rfl (by kernel_rfl) (Bks.cons hM.own.blk (Bks.cons hfb.blk Bks.nil)) (fun H hS => Lod.ld sc3 rfl hS.tl.hd rfl) ?_
  refine RegD.tpur (i := 8) rfl rfl rfl rfl (by kernel_rfl) (Pur.idx _ es22 rfl rfl (by omega) (by omega)) ?_
  refine RegD.tpur (i := 9) rfl rfl rfl rfl (by kernel_rfl) (Pur.asg rfl) ?_
  refine RegD.done (by kernel_rfl) ?_
  refine At.region rfl rfl ?_
  refine Reg.pur rfl rfl rfl rfl (Pur.mv rfl) ?_
  refine Reg.pur rfl rfl rfl rfl (Pur.nilc rfl) ?_
  refine Reg.pur rfl rfl rfl rfl (Pur.fld _ fo37_0 rfl) ?_
  refine Reg.lod rfl rfl rfl rfl (Lod.ld sc3 rfl hB hc0) ?_
  refine Reg.nil ?_
  refine At.region rfl rfl ?_
  refine Reg.pur rfl rfl rfl rfl (Pur.eql rfl rfl) ?_
  refine Reg.pur rfl rfl rfl rfl (Pur.asg rfl) ?_
  refine Reg.nil ?_
  refine At.cond rfl rfl (fun q22 => ?_) (fun q22 => ?_)
  · first | (simp only [decide_eq_true_eq, decide_eq_false_iff_not, Bool.not_eq_true', Bool.not_eq_false', ne_eq, Decidable.not_not, Bool.not_eq_true, Bool.not_eq_false] at q22) | (dsimp only at q22) | skip
    refine At.condT rfl rfl (by first | exact q22 | exact decide_eq_true q22 | exact decide_eq_false q22 | simpa using q22) ?_
    have hk5 : k = 5 ∨ k = 8 ∨ k = 10 := by omega
    refine At.drawE ((Bks.cons hfb.blk (Bks.cons o0_0.blk Bks.nil))) [] mixed rfl rfl ?_
    refine RegD.tpur (i := 0) rfl rfl rfl rfl (by kernel_rfl) (Pur.mv rfl) ?_
    refine RegD.tpur (i := 1) rfl rfl rfl rfl (by kernel_rfl) (Pur.mv rfl) ?_
    refine RegD.tpur (i := 2) rfl rfl rfl rfl (by kernel_rfl) (Pur.nilc rfl) ?_
    refine RegD.tpur (i := 3) rfl rfl rfl rfl (by kernel_rfl) (Pur.fld _ fo71_1 rfl) ?_
    refine RegD.take (i := 4) rfl rfl rfl rfl (by kernel_rfl) (Bks.cons hfb.blk (Bks.cons o0_0.blk Bks.nil)) (fun H hS => Lod.ld sc3 rfl hS.hd rfl) ?_
    refine RegD.take (i := 5) rfl rfl rfl rfl (by kernel_rfl) (Bks.cons hfb.blk (Bks.cons o0_0.blk Bks.nil)) (fun H hS => Lod.ldn ag68 rfl hS.tl.hd (whole rfl) rfl) ?_
    refine RegD.tpur (i := 6) rfl rfl rfl rfl (by kernel_rfl) (Pur.bld (cs := [_, _, _, _, _, _, _, _, _]) pl71 zc71 rfl rfl ⟨rfl, rfl, rfl, rfl, rfl, rfl, rfl, rfl, rfl, rfl⟩) ?_

    refine RegD.one (i := 7) (by kernel_rfl) rfl rfl rfl rfl (Does.call rfl (push_ok hM (repF_sec hv) (by omega))) ?_
    rintro _ H6_7 ⟨A1, cap1, hM1, hbut6_7, hA1⟩
    have z6_7 := hbut6_7.lt
    first | replace hL := hL.via hbut6_7 (by first | omega | (intro g; omega) | (intro g hg; omega) | (intro g hg h; omega)) | skip
    replace hB := hB.via hbut6_7 (by first | omega | (intro g; omega) | (intro g hg; omega) | (intro g hg h; omega))
    replace hfb := hfb.via hbut6_7 (by first | omega | (intro g; omega) | (intro g hg; omega) | (intro g hg h; omega))
    replace o0_0 := o0_0.via hbut6_7 (by first | omega | (intro g; omega) | (intro g hg; omega) | (intro g hg h; omega))
    refine ⟨fun _ _ => (Bks.cons hfb.blk (Bks.cons o0_0.blk Bks.nil)), ?_⟩
    refine RegD.done (by kernel_rfl) ?_
    have zM1 := hM1.lt
    refine At.drawE ((Bks.cons hB.blk (Bks.cons hfb.blk Bks.nil))) [9] mixed rfl rfl ?_
    refine RegD.tpur (i := 0) rfl rfl rfl rfl (by kernel_rfl) (Pur.mv rfl) ?_
    refine RegD.tpur (i := 1) rfl rfl rfl rfl (by kernel_rfl) (Pur.mv rfl) ?_
    refine RegD.tpur (i := 2) rfl rfl rfl rfl (by kernel_rfl) (Pur.nilc rfl) ?_
    refine RegD.tpur (i := 3) rfl rfl rfl rfl (by kernel_rfl) (Pur.fld _ fo37_2 rfl) ?_
    refine RegD.take (i := 4) rfl rfl rfl rfl (by kernel_rfl) (Bks.cons hB.blk (Bks.cons hfb.blk Bks.nil)) (fun H hS => Lod.ld sc3 rfl hS.hd (hc 2 (by decide))) ?_
    refine RegD.tpur (i := 5) rfl rfl rfl rfl (by kernel_rfl) (Pur.mv rfl) ?_
    refine RegD.tpur (i := 6) rfl rfl rfl rfl (by kernel_rfl) (Pur.nilc rfl) ?_
    refine RegD.tpur (i := 7) rfl rfl rfl rfl (by kernel_rfl) (Pur.fld _ fo71_2 rfl) ?_
    refine RegD.take (i := 8) rfl rfl rfl rfl (by kernel_rfl) (Bks.cons hB.blk (Bks.cons hfb.blk Bks.nil)) (fun H hS => Lod.ld sc47 rfl hS.tl.hd rfl) ?_
    refine RegD.one (i := 9) (by kernel_rfl) rfl rfl rfl rfl (Does.call rfl (goes_ok hM1 _ _ rfl)) ?_
    rintro _ H7_9 ⟨hM2, hbut7_9⟩
    have z7_9 := hbut7_9.lt
    first | replace hL := hL.via hbut7_9 (by first | omega | (intro g; omega) | (intro g hg; omega) | (intro g hg h; omega)) | skip
    replace hB := hB.via hbut7_9 (by first | omega | (intro g; omega) | (intro g hg; omega) | (intro g hg h; omega))
    replace hfb := hfb.via hbut7_9 (by first | omega | (intro g; omega) | (intro g hg; omega) | (intro g hg h; omega))
    replace o0_0 := o0_0.via hbut7_9 (by first | omega | (intro g; omega) | (intro g hg; omega) | (intro g hg h; omega))
    refine ⟨fun h => (by cases h), ?_⟩
    refine RegD.done (by kernel_rfl) ?_
    refine At.fall rfl Try.func28 rfl ?_
    rw [show fstM k (el L i) i fr en hd v = _ from if_pos hk5]
    exact After.ev hM2 hL hen
  first | (simp only [decide_eq_true_eq, decide_eq_false_iff_not, Bool.not_eq_true', Bool.not_eq_false', ne_eq, Decidable.not_not, Bool.not_eq_true, Bool.not_eq_false] at q22) | (dsimp only at q22) | skip
  refine At.region rfl rfl ?_
  refine Reg.pur rfl rfl rfl rfl (Pur.eql rfl rfl) ?_
  refine Reg.pur rfl rfl rfl rfl (Pur.asg rfl) ?_
  refine Reg.nil ?_
  refine At.cond rfl rfl (fun q22 => ?_) (fun q22 => ?_)
  · first | (simp only [decide_eq_true_eq, decide_eq_false_iff_not, Bool.not_eq_true', Bool.not_eq_false', ne_eq, Decidable.not_not, Bool.not_eq_true, Bool.not_eq_false] at q22) | (dsimp only at q22) | skip
    refine At.condT rfl rfl (by first | exact q22 | exact decide_eq_true q22 | exact decide_eq_false q22 | simpa using q22) ?_
    have hk5 : k = 5 ∨ k = 8 ∨ k = 10 := by omega
    refine At.drawE ((Bks.cons hfb.blk (Bks.cons o0_0.blk Bks.nil))) [] mixed rfl rfl ?_
    refine RegD.tpur (i := 0) rfl rfl rfl rfl (by kernel_rfl) (Pur.mv rfl) ?_
    refine RegD.tpur (i := 1) rfl rfl rfl rfl (by kernel_rfl) (Pur.mv rfl) ?_
    refine RegD.tpur (i := 2) rfl rfl rfl rfl (by kernel_rfl) (Pur.nilc rfl) ?_
    refine RegD.tpur (i := 3) rfl rfl rfl rfl (by kernel_rfl) (Pur.fld _ fo71_1 rfl) ?_
    refine RegD.take (i := 4) rfl rfl rfl rfl (by kernel_rfl) (Bks.cons hfb.blk (Bks.cons o0_0.blk Bks.nil)) (fun H hS => Lod.ld sc3 rfl hS.hd rfl) ?_
    refine RegD.take (i := 5) rfl rfl rfl rfl (by kernel_rfl) (Bks.cons hfb.blk (Bks.cons o0_0.blk Bks.nil)) (fun H hS => Lod.ldn ag68 rfl hS.tl.hd (whole rfl) rfl) ?_
    refine RegD.tpur (i := 6) rfl rfl rfl rfl (by kernel_rfl) (Pur.bld (cs := [_, _, _, _, _, _, _, _, _]) pl71 zc71 rfl rfl ⟨rfl, rfl, rfl, rfl, rfl, rfl, rfl, rfl, rfl, rfl⟩) ?_

    refine RegD.one (i := 7) (by kernel_rfl) rfl rfl rfl rfl (Does.call rfl (push_ok hM (repF_sec hv) (by omega))) ?_
    rintro _ H6_7 ⟨A1, cap1, hM1, hbut6_7, hA1⟩
    have z6_7 := hbut6_7.lt
    first | replace hL := hL.via hbut6_7 (by first | omega | (intro g; omega) | (intro g hg; omega) | (intro g hg h; omega)) | skip
    replace hB := hB.via hbut6_7 (by first | omega | (intro g; omega) | (intro g hg; omega) | (intro g hg h; omega))
    replace hfb := hfb.via hbut6_7 (by first | omega | (intro g; omega) | (intro g hg; omega) | (intro g hg h; omega))
    replace o0_0 := o0_0.via hbut6_7 (by first | omega | (intro g; omega) | (intro g hg; omega) | (intro g hg h; omega))
    refine ⟨fun _ _ => (Bks.cons hfb.blk (Bks.cons o0_0.blk Bks.nil)), ?_⟩
    refine RegD.done (by kernel_rfl) ?_
    have zM1 := hM1.lt
    refine At.drawE ((Bks.cons hB.blk (Bks.cons hfb.blk Bks.nil))) [9] mixed rfl rfl ?_
    refine RegD.tpur (i := 0) rfl rfl rfl rfl (by kernel_rfl) (Pur.mv rfl) ?_
    refine RegD.tpur (i := 1) rfl rfl rfl rfl (by kernel_rfl) (Pur.mv rfl) ?_
    refine RegD.tpur (i := 2) rfl rfl rfl rfl (by kernel_rfl) (Pur.nilc rfl) ?_
    refine RegD.tpur (i := 3) rfl rfl rfl rfl (by kernel_rfl) (Pur.fld _ fo37_2 rfl) ?_
    refine RegD.take (i := 4) rfl rfl rfl rfl (by kernel_rfl) (Bks.cons hB.blk (Bks.cons hfb.blk Bks.nil)) (fun H hS => Lod.ld sc3 rfl hS.hd (hc 2 (by decide))) ?_
    refine RegD.tpur (i := 5) rfl rfl rfl rfl (by kernel_rfl) (Pur.mv rfl) ?_
    refine RegD.tpur (i := 6) rfl rfl rfl rfl (by kernel_rfl) (Pur.nilc rfl) ?_
    refine RegD.tpur (i := 7) rfl rfl rfl rfl (by kernel_rfl) (Pur.fld _ fo71_2 rfl) ?_
    refine RegD.take (i := 8) rfl rfl rfl rfl (by kernel_rfl) (Bks.cons hB.blk (Bks.cons hfb.blk Bks.nil)) (fun H hS => Lod.ld sc47 rfl hS.tl.hd rfl) ?_
    refine RegD.one (i := 9) (by kernel_rfl) rfl rfl rfl rfl (Does.call rfl (goes_ok hM1 _ _ rfl)) ?_
    rintro _ H7_9 ⟨hM2, hbut7_9⟩
    have z7_9 := hbut7_9.lt
    first | replace hL := hL.via hbut7_9 (by first | omega | (intro g; omega) | (intro g hg; omega) | (intro g hg h; omega)) | skip
    replace hB := hB.via hbut7_9 (by first | omega | (intro g; omega) | (intro g hg; omega) | (intro g hg h; omega))
    replace hfb := hfb.via hbut7_9 (by first | omega | (intro g; omega) | (intro g hg; omega) | (intro g hg h; omega))
    replace o0_0 := o0_0.via hbut7_9 (by first | omega | (intro g; omega) | (intro g hg; omega) | (intro g hg h; omega))
    refine ⟨fun h => (by cases h), ?_⟩
    refine RegD.done (by kernel_rfl) ?_
    refine At.fall rfl Try.func28 rfl ?_
    rw [show fstM k (el L i) i fr en hd v = _ from if_pos hk5]
    exact After.ev hM2 hL hen
  first | (simp only [decide_eq_true_eq, decide_eq_false_iff_not, Bool.not_eq_true', Bool.not_eq_false', ne_eq, Decidable.not_not, Bool.not_eq_true, Bool.not_eq_false] at q22) | (dsimp only at q22) | skip
  refine At.region rfl rfl ?_
  refine Reg.pur rfl rfl rfl rfl (Pur.eql rfl rfl) ?_
  refine Reg.pur rfl rfl rfl rfl (Pur.asg rfl) ?_
  refine Reg.nil ?_
  refine At.cond rfl rfl (fun q22 => ?_) (fun q22 => ?_)
  · first | (simp only [decide_eq_true_eq, decide_eq_false_iff_not, Bool.not_eq_true', Bool.not_eq_false', ne_eq, Decidable.not_not, Bool.not_eq_true, Bool.not_eq_false] at q22) | (dsimp only at q22) | skip
    have hk5 : k = 5 ∨ k = 8 ∨ k = 10 := by omega
    refine At.drawE ((Bks.cons hfb.blk (Bks.cons o0_0.blk Bks.nil))) [] mixed rfl rfl ?_
    refine RegD.tpur (i := 0) rfl rfl rfl rfl (by kernel_rfl) (Pur.mv rfl) ?_
    refine RegD.tpur (i := 1) rfl rfl rfl rfl (by kernel_rfl) (Pur.mv rfl) ?_
    refine RegD.tpur (i := 2) rfl rfl rfl rfl (by kernel_rfl) (Pur.nilc rfl) ?_
    refine RegD.tpur (i := 3) rfl rfl rfl rfl (by kernel_rfl) (Pur.fld _ fo71_1 rfl) ?_
    refine RegD.take (i := 4) rfl rfl rfl rfl (by kernel_rfl) (Bks.cons hfb.blk (Bks.cons o0_0.blk Bks.nil)) (fun H hS => Lod.ld sc3 rfl hS.hd rfl) ?_
    refine RegD.take (i := 5) rfl rfl rfl rfl (by kernel_rfl) (Bks.cons hfb.blk (Bks.cons o0_0.blk Bks.nil)) (fun H hS => Lod.ldn ag68 rfl hS.tl.hd (whole rfl) rfl) ?_
    refine RegD.tpur (i := 6) rfl rfl rfl rfl (by kernel_rfl) (Pur.bld (cs := [_, _, _, _, _, _, _, _, _]) pl71 zc71 rfl rfl ⟨rfl, rfl, rfl, rfl, rfl, rfl, rfl, rfl, rfl, rfl⟩) ?_

    refine RegD.one (i := 7) (by kernel_rfl) rfl rfl rfl rfl (Does.call rfl (push_ok hM (repF_sec hv) (by omega))) ?_
    rintro _ H6_7 ⟨A1, cap1, hM1, hbut6_7, hA1⟩
    have z6_7 := hbut6_7.lt
    first | replace hL := hL.via hbut6_7 (by first | omega | (intro g; omega) | (intro g hg; omega) | (intro g hg h; omega)) | skip
    replace hB := hB.via hbut6_7 (by first | omega | (intro g; omega) | (intro g hg; omega) | (intro g hg h; omega))
    replace hfb := hfb.via hbut6_7 (by first | omega | (intro g; omega) | (intro g hg; omega) | (intro g hg h; omega))
    replace o0_0 := o0_0.via hbut6_7 (by first | omega | (intro g; omega) | (intro g hg; omega) | (intro g hg h; omega))
    refine ⟨fun _ _ => (Bks.cons hfb.blk (Bks.cons o0_0.blk Bks.nil)), ?_⟩
    refine RegD.done (by kernel_rfl) ?_
    have zM1 := hM1.lt
    refine At.drawE ((Bks.cons hB.blk (Bks.cons hfb.blk Bks.nil))) [9] mixed rfl rfl ?_
    refine RegD.tpur (i := 0) rfl rfl rfl rfl (by kernel_rfl) (Pur.mv rfl) ?_
    refine RegD.tpur (i := 1) rfl rfl rfl rfl (by kernel_rfl) (Pur.mv rfl) ?_
    refine RegD.tpur (i := 2) rfl rfl rfl rfl (by kernel_rfl) (Pur.nilc rfl) ?_
    refine RegD.tpur (i := 3) rfl rfl rfl rfl (by kernel_rfl) (Pur.fld _ fo37_2 rfl) ?_
    refine RegD.take (i := 4) rfl rfl rfl rfl (by kernel_rfl) (Bks.cons hB.blk (Bks.cons hfb.blk Bks.nil)) (fun H hS => Lod.ld sc3 rfl hS.hd (hc 2 (by decide))) ?_
    refine RegD.tpur (i := 5) rfl rfl rfl rfl (by kernel_rfl) (Pur.mv rfl) ?_
    refine RegD.tpur (i := 6) rfl rfl rfl rfl (by kernel_rfl) (Pur.nilc rfl) ?_
    refine RegD.tpur (i := 7) rfl rfl rfl rfl (by kernel_rfl) (Pur.fld _ fo71_2 rfl) ?_
    refine RegD.take (i := 8) rfl rfl rfl rfl (by kernel_rfl) (Bks.cons hB.blk (Bks.cons hfb.blk Bks.nil)) (fun H hS => Lod.ld sc47 rfl hS.tl.hd rfl) ?_
    refine RegD.one (i := 9) (by kernel_rfl) rfl rfl rfl rfl (Does.call rfl (goes_ok hM1 _ _ rfl)) ?_
    rintro _ H7_9 ⟨hM2, hbut7_9⟩
    have z7_9 := hbut7_9.lt
    first | replace hL := hL.via hbut7_9 (by first | omega | (intro g; omega) | (intro g hg; omega) | (intro g hg h; omega)) | skip
    replace hB := hB.via hbut7_9 (by first | omega | (intro g; omega) | (intro g hg; omega) | (intro g hg h; omega))
    replace hfb := hfb.via hbut7_9 (by first | omega | (intro g; omega) | (intro g hg; omega) | (intro g hg h; omega))
    replace o0_0 := o0_0.via hbut7_9 (by first | omega | (intro g; omega) | (intro g hg; omega) | (intro g hg h; omega))
    refine ⟨fun h => (by cases h), ?_⟩
    refine RegD.done (by kernel_rfl) ?_
    refine At.fall rfl Try.func28 rfl ?_
    rw [show fstM k (el L i) i fr en hd v = _ from if_pos hk5]
    exact After.ev hM2 hL hen
  first | (simp only [decide_eq_true_eq, decide_eq_false_iff_not, Bool.not_eq_true', Bool.not_eq_false', ne_eq, Decidable.not_not, Bool.not_eq_true, Bool.not_eq_false] at q22) | (dsimp only at q22) | skip
  refine At.region rfl rfl ?_
  refine Reg.pur rfl rfl rfl rfl (Pur.eql rfl rfl) ?_
  refine Reg.pur rfl rfl rfl rfl (Pur.asg rfl) ?_
  refine Reg.nil ?_
  refine At.cond rfl rfl (fun q44 => ?_) (fun q44 => ?_)
  · first | (simp only [decide_eq_true_eq, decide_eq_false_iff_not, Bool.not_eq_true', Bool.not_eq_false', ne_eq, Decidable.not_not, Bool.not_eq_true, Bool.not_eq_false] at q44) | (dsimp only at q44) | skip
    have hk5 : ¬ (k = 5 ∨ k = 8 ∨ k = 10) := by omega
    refine At.drawE ((Bks.cons hB.blk (Bks.cons hfb.blk (Bks.cons o0_0.blk Bks.nil)))) [] mixed rfl rfl ?_
    refine RegD.tpur (i := 0) rfl rfl rfl rfl (by kernel_rfl) (Pur.mv rfl) ?_
    refine RegD.tpur (i := 1) rfl rfl rfl rfl (by kernel_rfl) (Pur.mv rfl) ?_
    refine RegD.tpur (i := 2) rfl rfl rfl rfl (by kernel_rfl) (Pur.nilc rfl) ?_
    refine RegD.tpur (i := 3) rfl rfl rfl rfl (by kernel_rfl) (Pur.fld _ fo37_2 rfl) ?_
    refine RegD.take (i := 4) rfl rfl rfl rfl (by kernel_rfl) (Bks.cons hB.blk (Bks.cons hfb.blk (Bks.cons o0_0.blk Bks.nil))) (fun H hS => Lod.ld sc3 rfl hS.hd (hc 2 (by decide))) ?_
    refine RegD.tpur (i := 5) rfl rfl rfl rfl (by kernel_rfl) (Pur.mv rfl) ?_
    refine RegD.tpur (i := 6) rfl rfl rfl rfl (by kernel_rfl) (Pur.nilc rfl) ?_
    refine RegD.tpur (i := 7) rfl rfl rfl rfl (by kernel_rfl) (Pur.fld _ fo71_2 rfl) ?_
    refine RegD.take (i := 8) rfl rfl rfl rfl (by kernel_rfl) (Bks.cons hB.blk (Bks.cons hfb.blk (Bks.cons o0_0.blk Bks.nil))) (fun H hS => Lod.ld sc47 rfl hS.tl.hd rfl) ?_
    refine RegD.tpur (i := 9) rfl rfl rfl rfl (by kernel_rfl) (Pur.mv rfl) ?_
    refine RegD.tpur (i := 10) rfl rfl rfl rfl (by kernel_rfl) (Pur.nilc rfl) ?_
    refine RegD.tpur (i := 11) rfl rfl rfl rfl (by kernel_rfl) (Pur.fld _ fo37_5 rfl) ?_
    refine RegD.take (i := 12) rfl rfl rfl rfl (by kernel_rfl) (Bks.cons hB.blk (Bks.cons hfb.blk (Bks.cons o0_0.blk Bks.nil))) (fun H hS => Lod.ld sc3 rfl hS.hd (hc 5 (by decide))) ?_
    refine RegD.take (i := 13) rfl rfl rfl rfl (by kernel_rfl) (Bks.cons hB.blk (Bks.cons hfb.blk (Bks.cons o0_0.blk Bks.nil))) (fun H hS => Lod.ldn ag68 rfl hS.tl.tl.hd (whole rfl) rfl) ?_

    refine RegD.one (i := 14) (by kernel_rfl) rfl rfl rfl rfl (Does.call rfl (with_ok hM hv hen _)) ?_
    rintro v9 H9_14 ⟨G1, hle1, hen1, hM1, hE9_14⟩
    have z9_14 := hE9_14.lt
    first | replace hL := hL.ext hE9_14 | skip
    replace hB := hB.ext hE9_14
    replace hfb := hfb.ext hE9_14
    replace o0_0 := o0_0.ext hE9_14
    refine ⟨fun _ _ => (Bks.cons hB.blk (Bks.cons hfb.blk (Bks.cons o0_0.blk Bks.nil))), ?_⟩
    refine RegD.one (i := 15) (by kernel_rfl) rfl rfl rfl rfl (Does.call rfl (goes_ok hM1 _ _ (repE_cell hen1))) ?_
    rintro _ H9_15 ⟨hM2, hbut9_15⟩
    have z9_15 := hbut9_15.lt
    first | replace hL := hL.via hbut9_15 (by first | omega | (intro g; omega) | (intro g hg; omega) | (intro g hg h; omega)) | skip
    replace hB := hB.via hbut9_15 (by first | omega | (intro g; omega) | (intro g hg; omega) | (intro g hg h; omega))
    replace hfb := hfb.via hbut9_15 (by first | omega | (intro g; omega) | (intro g hg; omega) | (intro g hg h; omega))
    replace o0_0 := o0_0.via hbut9_15 (by first | omega | (intro g; omega) | (intro g hg; omega) | (intro g hg h; omega))
    refine ⟨fun _ _ => (Bks.cons hB.blk (Bks.cons hfb.blk (Bks.cons o0_0.blk Bks.nil))), ?_⟩
    refine RegD.done (by kernel_rfl) ?_
    refine At.fall rfl Try.func28 rfl ?_
    rw [show fstM k (el L i) i fr en hd v = _ from (if_neg hk5).trans (if_pos q44)]
    exact After.ev hM2 hL hen1
  first | (simp only [decide_eq_true_eq, decide_eq_false_iff_not, Bool.not_eq_true', Bool.not_eq_false', ne_eq, Decidable.not_not, Bool.not_eq_true, Bool.not_eq_false] at q44) | (dsimp only at q44) | skip
  refine At.region rfl rfl ?_
  refine Reg.pur rfl rfl rfl rfl (Pur.eql rfl rfl) ?_
  refine Reg.pur rfl rfl rfl rfl (Pur.asg rfl) ?_
  refine Reg.nil ?_
  refine At.cond rfl rfl (fun q62 => ?_) (fun q62 => ?_)
  · first | (simp only [decide_eq_true_eq, decide_eq_false_iff_not, Bool.not_eq_true', Bool.not_eq_false', ne_eq, Decidable.not_not, Bool.not_eq_true, Bool.not_eq_false] at q62) | (dsimp only at q62) | skip
    subst q62
    refine At.region rfl rfl ?_
    refine Reg.pur rfl rfl rfl rfl (Pur.fld _ fo68_0 rfl) ?_
    refine Reg.lod rfl rfl rfl rfl (Lod.ld sc66 rfl o0_0.blk rfl) ?_
    refine Reg.pur rfl rfl rfl rfl (Pur.neq rfl rfl) ?_
    refine Reg.pur rfl rfl rfl rfl (Pur.asg rfl) ?_
    refine Reg.nil ?_
    refine At.cond rfl rfl (fun q74 => ?_) (fun q74 => ?_)
    · first | (simp only [decide_eq_true_eq, decide_eq_false_iff_not, Bool.not_eq_true', Bool.not_eq_false', ne_eq, Decidable.not_not, Bool.not_eq_true, Bool.not_eq_false] at q74) | (dsimp only at q74) | skip
      refine At.region rfl rfl ?_
      refine Reg.pur rfl rfl rfl rfl (Pur.mv rfl) ?_

      refine Reg.op rfl rfl rfl rfl (Does.call rfl (stuck_ok hM)) ?_
      rintro _ H13_1 ⟨b2, hM1, hb1, hbut13_1⟩
      have z13_1 := hbut13_1.lt
      first | replace hL := hL.via hbut13_1 (by first | omega | (intro g; omega) | (intro g hg; omega) | (intro g hg h; omega)) | skip
      replace hB := hB.via hbut13_1 (by first | omega | (intro g; omega) | (intro g hg; omega) | (intro g hg h; omega))
      replace hfb := hfb.via hbut13_1 (by first | omega | (intro g; omega) | (intro g hg; omega) | (intro g hg h; omega))
      replace o0_0 := o0_0.via hbut13_1 (by first | omega | (intro g; omega) | (intro g hg; omega) | (intro g hg h; omega))
      refine Reg.nil ?_
      refine At.fall rfl Try.func28 rfl ?_
      rw [if_no q74]
      exact After.fin hM1 hL hl hb1
    first | (simp only [decide_eq_true_eq, decide_eq_false_iff_not, Bool.not_eq_true', Bool.not_eq_false', ne_eq, Decidable.not_not, Bool.not_eq_true, Bool.not_eq_false] at q74) | (dsimp only at q74) | skip
    obtain rfl := tru_of hv q74
    refine At.region rfl rfl ?_
    refine Reg.pur rfl rfl rfl rfl (Pur.fld _ fo68_1 rfl) ?_
    refine Reg.lod rfl rfl rfl rfl (Lod.ld sc3 rfl o0_0.blk rfl) ?_
    refine Reg.pur rfl rfl rfl rfl (Pur.eql rfl rfl) ?_
    refine Reg.pur rfl rfl rfl rfl (Pur.asg rfl) ?_
    refine Reg.nil ?_
    refine At.cond rfl rfl (fun q80 => ?_) (fun q80 => ?_)
    · first | (simp only [decide_eq_true_eq, decide_eq_false_iff_not, Bool.not_eq_true', Bool.not_eq_false', ne_eq, Decidable.not_not, Bool.not_eq_true, Bool.not_eq_false] at q80) | (dsimp only at q80) | skip
      refine At.drawE ((Bks.cons hB.blk (Bks.cons hfb.blk Bks.nil))) [9] mixed rfl rfl ?_
      refine RegD.tpur (i := 0) rfl rfl rfl rfl (by kernel_rfl) (Pur.mv rfl) ?_
      refine RegD.tpur (i := 1) rfl rfl rfl rfl (by kernel_rfl) (Pur.mv rfl) ?_
      refine RegD.tpur (i := 2) rfl rfl rfl rfl (by kernel_rfl) (Pur.nilc rfl) ?_
      refine RegD.tpur (i := 3) rfl rfl rfl rfl (by kernel_rfl) (Pur.fld _ fo37_2 rfl) ?_
      refine RegD.take (i := 4) rfl rfl rfl rfl (by kernel_rfl) (Bks.cons hB.blk (Bks.cons hfb.blk Bks.nil)) (fun H hS => Lod.ld sc3 rfl hS.hd (hc 2 (by decide))) ?_
      refine RegD.tpur (i := 5) rfl rfl rfl rfl (by kernel_rfl) (Pur.mv rfl) ?_
      refine RegD.tpur (i := 6) rfl rfl rfl rfl (by kernel_rfl) (Pur.nilc rfl) ?_
      refine RegD.tpur (i := 7) rfl rfl rfl rfl (by kernel_rfl) (Pur.fld _ fo71_2 rfl) ?_
      refine RegD.take (i := 8) rfl rfl rfl rfl (by kernel_rfl) (Bks.cons hB.blk (Bks.cons hfb.blk Bks.nil)) (fun H hS => Lod.ld sc47 rfl hS.tl.hd rfl) ?_

      refine RegD.one (i := 9) (by kernel_rfl) rfl rfl rfl rfl (Does.call rfl (goes_ok hM _ _ rfl)) ?_
      rintro _ H15_9 ⟨hM2, hbut15_9⟩
      have z15_9 := hbut15_9.lt
      first | replace hL := hL.via hbut15_9 (by first | omega | (intro g; omega) | (intro g hg; omega) | (intro g hg h; omega)) | skip
      replace hB := hB.via hbut15_9 (by first | omega | (intro g; omega) | (intro g hg; omega) | (intro g hg h; omega))
      replace hfb := hfb.via hbut15_9 (by first | omega | (intro g; omega) | (intro g hg; omega) | (intro g hg h; omega))
      replace o0_0 := o0_0.via hbut15_9 (by first | omega | (intro g; omega) | (intro g hg; omega) | (intro g hg h; omega))
      refine ⟨fun h => (by cases h), ?_⟩
      refine RegD.done (by kernel_rfl) ?_
      refine At.fall rfl Try.func28 rfl ?_
      rw [show fstM 7 (el L i) i fr en hd (.tru vn) = _ from if_pos q80]
      exact After.ev hM2 hL hen
    first | (simp only [decide_eq_true_eq, decide_eq_false_iff_not, Bool.not_eq_true', Bool.not_eq_false', ne_eq, Decidable.not_not, Bool.not_eq_true, Bool.not_eq_false] at q80) | (dsimp only at q80) | skip
    refine At.drawE ((Bks.cons hB.blk (Bks.cons hfb.blk Bks.nil))) [9] mixed rfl rfl ?_
    refine RegD.tpur (i := 0) rfl rfl rfl rfl (by kernel_rfl) (Pur.mv rfl) ?_
    refine RegD.tpur (i := 1) rfl rfl rfl rfl (by kernel_rfl) (Pur.mv rfl) ?_
    refine RegD.tpur (i := 2) rfl rfl rfl rfl (by kernel_rfl) (Pur.nilc rfl) ?_
    refine RegD.tpur (i := 3) rfl rfl rfl rfl (by kernel_rfl) (Pur.fld _ fo37_3 rfl) ?_
    refine RegD.take (i := 4) rfl rfl rfl rfl (by kernel_rfl) (Bks.cons hB.blk (Bks.cons hfb.blk Bks.nil)) (fun H hS => Lod.ld sc3 rfl hS.hd (hc 3 (by decide))) ?_
    refine RegD.tpur (i := 5) rfl rfl rfl rfl (by kernel_rfl) (Pur.mv rfl) ?_
    refine RegD.tpur (i := 6) rfl rfl rfl rfl (by kernel_rfl) (Pur.nilc rfl) ?_
    refine RegD.tpur (i := 7) rfl rfl rfl rfl (by kernel_rfl) (Pur.fld _ fo71_2 rfl) ?_
    refine RegD.take (i := 8) rfl rfl rfl rfl (by kernel_rfl) (Bks.cons hB.blk (Bks.cons hfb.blk Bks.nil)) (fun H hS => Lod.ld sc47 rfl hS.tl.hd rfl) ?_

    refine RegD.one (i := 9) (by kernel_rfl) rfl rfl rfl rfl (Does.call rfl (goes_ok hM _ _ rfl)) ?_
    rintro _ H11_9 ⟨hM2, hbut11_9⟩
    have z11_9 := hbut11_9.lt
    first | replace hL := hL.via hbut11_9 (by first | omega | (intro g; omega) | (intro g hg; omega) | (intro g hg h; omega)) | skip
    replace hB := hB.via hbut11_9 (by first | omega | (intro g; omega) | (intro g hg; omega) | (intro g hg h; omega))
    replace hfb := hfb.via hbut11_9 (by first | omega | (intro g; omega) | (intro g hg; omega) | (intro g hg h; omega))
    replace o0_0 := o0_0.via hbut11_9 (by first | omega | (intro g; omega) | (intro g hg; omega) | (intro g hg h; omega))
    refine ⟨fun h => (by cases h), ?_⟩
    refine RegD.done (by kernel_rfl) ?_
    refine At.fall rfl Try.func28 rfl ?_
    rw [show fstM 7 (el L i) i fr en hd (.tru vn) = _ from if_neg q80]
    exact After.ev hM2 hL hen
  first | (simp only [decide_eq_true_eq, decide_eq_false_iff_not, Bool.not_eq_true', Bool.not_eq_false', ne_eq, Decidable.not_not, Bool.not_eq_true, Bool.not_eq_false] at q62) | (dsimp only at q62) | skip
  refine At.region rfl rfl ?_
  refine Reg.pur rfl rfl rfl rfl (Pur.eql rfl rfl) ?_
  refine Reg.pur rfl rfl rfl rfl (Pur.asg rfl) ?_
  refine Reg.nil ?_
  refine At.cond rfl rfl (fun q94 => ?_) (fun q94 => ?_)
  · first | (simp only [decide_eq_true_eq, decide_eq_false_iff_not, Bool.not_eq_true', Bool.not_eq_false', ne_eq, Decidable.not_not, Bool.not_eq_true, Bool.not_eq_false] at q94) | (dsimp only at q94) | skip
    subst q94
    have hMa := hM.add o0_0.blk (by omega)
    have hle := gset_le (b := H.size) (c := [I (kp v), I vn, I vi, .pointer vp, .pointer vq, .pointer vr]) hM.fz (by omega)
    refine At.region rfl rfl ?_
    refine Reg.pur rfl rfl rfl rfl (Pur.mv rfl) ?_
    refine Reg.pur rfl rfl rfl rfl (Pur.bld (cs := [_, _, _, _, _, _]) pl68 zc68 rfl rfl ⟨rfl, rfl, rfl, rfl, rfl, rfl, rfl⟩) ?_

    refine Reg.op rfl rfl rfl rfl (Does.call rfl (gives_ok hMa (v := .ret v) (vc := [I 5, I 0, I 0, nilp, ptr H.size 0, nilp]) (by simp only [repV]; exact ⟨_, _, rfl, gset_at _ _ _, repV_mono hle _ _ hv⟩))) ?_
    rintro _ H17_2 ⟨G3, pv3, hle3, hp3, hM3, hbut17_2⟩
    have z17_2 := hbut17_2.lt
    first | replace hL := hL.via hbut17_2 (by first | omega | (intro g; omega) | (intro g hg; omega) | (intro g hg h; omega)) | skip
    replace hB := hB.via hbut17_2 (by first | omega | (intro g; omega) | (intro g hg; omega) | (intro g hg h; omega))
    replace hfb := hfb.via hbut17_2 (by first | omega | (intro g; omega) | (intro g hg; omega) | (intro g hg h; omega))
    replace o0_0 := o0_0.via hbut17_2 (by first | omega | (intro g; omega) | (intro g hg; omega) | (intro g hg h; omega))
    refine Reg.nil ?_
    refine At.fall rfl Try.func28 rfl ?_
    exact After.gv hM3 hL hp3
  first | (simp only [decide_eq_true_eq, decide_eq_false_iff_not, Bool.not_eq_true', Bool.not_eq_false', ne_eq, Decidable.not_not, Bool.not_eq_true, Bool.not_eq_false] at q94) | (dsimp only at q94) | skip
  refine At.region rfl rfl ?_
  refine Reg.pur rfl rfl rfl rfl (Pur.eql rfl rfl) ?_
  refine Reg.pur rfl rfl rfl rfl (Pur.asg rfl) ?_
  refine Reg.nil ?_
  refine At.cond rfl rfl (fun q99 => ?_) (fun q99 => ?_)
  · first | (simp only [decide_eq_true_eq, decide_eq_false_iff_not, Bool.not_eq_true', Bool.not_eq_false', ne_eq, Decidable.not_not, Bool.not_eq_true, Bool.not_eq_false] at q99) | (dsimp only at q99) | skip
    subst q99
    refine At.drawE ((Bks.cons hfb.blk (Bks.cons o0_0.blk Bks.nil))) [] mixed rfl rfl ?_
    refine RegD.tpur (i := 0) rfl rfl rfl rfl (by kernel_rfl) (Pur.mv rfl) ?_
    refine RegD.tpur (i := 1) rfl rfl rfl rfl (by kernel_rfl) (Pur.mv rfl) ?_
    refine RegD.take (i := 2) rfl rfl rfl rfl (by kernel_rfl) (Bks.cons hfb.blk (Bks.cons o0_0.blk Bks.nil)) (fun H hS => Lod.ldn ag68 rfl hS.tl.hd (whole rfl) rfl) ?_
    refine RegD.tpur (i := 3) rfl rfl rfl rfl (by kernel_rfl) (Pur.mv rfl) ?_
    refine RegD.tpur (i := 4) rfl rfl rfl rfl (by kernel_rfl) (Pur.nilc rfl) ?_
    refine RegD.tpur (i := 5) rfl rfl rfl rfl (by kernel_rfl) (Pur.fld _ fo71_1 rfl) ?_
    refine RegD.take (i := 6) rfl rfl rfl rfl (by kernel_rfl) (Bks.cons hfb.blk (Bks.cons o0_0.blk Bks.nil)) (fun H hS => Lod.ld sc3 rfl hS.hd rfl) ?_
    refine RegD.tpur (i := 7) rfl rfl rfl rfl (by kernel_rfl) (Pur.mv rfl) ?_
    refine RegD.tpur (i := 8) rfl rfl rfl rfl (by kernel_rfl) (Pur.nilc rfl) ?_
    refine RegD.tpur (i := 9) rfl rfl rfl rfl (by kernel_rfl) (Pur.fld _ fo71_2 rfl) ?_
    refine RegD.take (i := 10) rfl rfl rfl rfl (by kernel_rfl) (Bks.cons hfb.blk (Bks.cons o0_0.blk Bks.nil)) (fun H hS => Lod.ld sc47 rfl hS.hd rfl) ?_
    refine RegD.tpur (i := 11) rfl rfl rfl rfl (by kernel_rfl) (Pur.fld _ fo68_5 rfl) ?_
    refine RegD.take (i := 12) rfl rfl rfl rfl (by kernel_rfl) (Bks.cons hfb.blk (Bks.cons o0_0.blk Bks.nil)) (fun H hS => Lod.ld sc48 rfl hS.tl.hd rfl) ?_
    refine RegD.tpur (i := 13) rfl rfl rfl rfl (by kernel_rfl) (Pur.bld (cs := [_, _, _, _, _, _]) pl68 zc68 rfl rfl ⟨rfl, rfl, rfl, rfl, rfl, rfl, rfl⟩) ?_
    refine RegD.one (i := 14) (by kernel_rfl) rfl rfl rfl rfl (Does.box rfl rfl) ?_
    rintro _ H19_14 ⟨rfl, hn19_14⟩
    have z19_14 := hn19_14.size
    first | replace hL := hL.ext hn19_14.ext | skip
    replace hM := hM.ext hn19_14.ext
    replace hB := hB.ext hn19_14.ext
    replace hfb := hfb.ext hn19_14.ext
    replace o0_0 := o0_0.ext hn19_14.ext
    have o19_14 := hn19_14.own
    refine ⟨fun _ _ => (Bks.cons hfb.blk (Bks.cons o0_0.blk Bks.nil)), ?_⟩
    have hMb := hM.add o19_14.blk (by omega)
    have hle := gset_le (b := H0_0.size) (c := [I 3, I 0, I i, .pointer Ap, .pointer vr, nilp]) hM.fz (by omega)
    have hon : kp v = 6 → Onw (Gset G H0_0.size [I 3, I 0, I i, .pointer Ap, .pointer vr, nilp]) (bOn i en v) (ptr H0_0.size 0) := by
      intro h6
      obtain ⟨one, two, b1, d1, b2, d2, rfl, rfl, hG1, hone, rfl, hG2, htwo⟩ := op_of hv h6
      refine ⟨_, _, rfl, gset_at _ _ _, ?_⟩
      simp only [repV]
      exact ⟨_, b2, d2, rfl, repE_mono hle _ _ hen, hle _ _ hG2, repV_mono hle _ _ htwo⟩
    have hcmp := computed_ok (on := bOn i en v) hT hMb ⟨hn0, hn1⟩ (.inl hkk) hfb hfm (repE_mono hle _ _ hen) (repV_mono hle _ _ hv) hon hl

    refine RegD.one (i := 15) (by kernel_rfl) rfl rfl rfl rfl (Does.call rfl (hcmp)) ?_
    rintro _ H19_15 ⟨hbut19_15, hAf⟩
    have z19_15 := hbut19_15.lt
    first | replace hL := hL.via hbut19_15 (by first | omega | (intro g; omega) | (intro g hg; omega) | (intro g hg h; omega)) | skip
    replace hB := hB.via hbut19_15 (by first | omega | (intro g; omega) | (intro g hg; omega) | (intro g hg h; omega))
    replace hfb := hfb.via hbut19_15 (by first | omega | (intro g; omega) | (intro g hg; omega) | (intro g hg h; omega))
    replace o0_0 := o0_0.via hbut19_15 (by first | omega | (intro g; omega) | (intro g hg; omega) | (intro g hg h; omega))
    replace o19_14 := o19_14.via hbut19_15 (by first | omega | (intro g; omega) | (intro g hg; omega) | (intro g hg h; omega))
    refine ⟨fun _ _ => (Bks.cons hfb.blk (Bks.cons o0_0.blk Bks.nil)), ?_⟩
    refine RegD.done (by kernel_rfl) ?_
    refine At.fall rfl Try.func28 rfl ?_
    rw [show fstM 11 (el L i) i fr en hd v = _ from bind_comp]
    exact ⟨hL.but, hAf⟩
  first | (simp only [decide_eq_true_eq, decide_eq_false_iff_not, Bool.not_eq_true', Bool.not_eq_false', ne_eq, Decidable.not_not, Bool.not_eq_true, Bool.not_eq_false] at q99) | (dsimp only at q99) | skip
  refine At.region rfl rfl ?_
  refine Reg.pur rfl rfl rfl rfl (Pur.eql rfl rfl) ?_
  refine Reg.pur rfl rfl rfl rfl (Pur.asg rfl) ?_
  refine Reg.nil ?_
  refine At.cond rfl rfl (fun q117 => ?_) (fun q117 => ?_)
  · first | (simp only [decide_eq_true_eq, decide_eq_false_iff_not, Bool.not_eq_true', Bool.not_eq_false', ne_eq, Decidable.not_not, Bool.not_eq_true, Bool.not_eq_false] at q117) | (dsimp only at q117) | skip
    subst q117
    refine At.drawE ((Bks.cons hB.blk (Bks.cons o0_0.blk Bks.nil))) [] mixed rfl rfl ?_
    refine RegD.tpur (i := 0) rfl rfl rfl rfl (by kernel_rfl) (Pur.fld _ fo68_0 rfl) ?_
    refine RegD.take (i := 1) rfl rfl rfl rfl (by kernel_rfl) (Bks.cons hB.blk (Bks.cons o0_0.blk Bks.nil)) (fun H hS => Lod.ld sc66 rfl hS.tl.hd rfl) ?_
    refine RegD.tpur (i := 2) rfl rfl rfl rfl (by kernel_rfl) (Pur.eql rfl rfl) ?_
    refine RegD.tpur (i := 3) rfl rfl rfl rfl (by kernel_rfl) (Pur.mv rfl) ?_
    refine RegD.case 122 rfl (fun q122 => ?_) (fun q122 => ?_)
    · first | (simp only [decide_eq_true_eq, decide_eq_false_iff_not, Bool.not_eq_true', Bool.not_eq_false', ne_eq, Decidable.not_not, Bool.not_eq_true, Bool.not_eq_false] at q122) | (dsimp only at q122) | skip
      refine RegD.gtpur (i := 4) rfl rfl rfl rfl rfl rfl (by kernel_rfl) (Pur.fld _ fo68_1 rfl) ?_
      refine RegD.gtake (i := 5) rfl rfl rfl rfl rfl rfl (by kernel_rfl) (Bks.cons hB.blk (Bks.cons o0_0.blk Bks.nil)) (fun H hS => Lod.ld sc3 rfl hS.tl.hd rfl) ?_
      refine RegD.gtpur (i := 6) rfl rfl rfl rfl rfl rfl (by kernel_rfl) (Pur.mv rfl) ?_
      refine RegD.gtpur (i := 7) rfl rfl rfl rfl rfl rfl (by kernel_rfl) (Pur.nilc rfl) ?_
      refine RegD.gtpur (i := 8) rfl rfl rfl rfl rfl rfl (by kernel_rfl) (Pur.fld _ fo37_4 rfl) ?_
      refine RegD.gtake (i := 9) rfl rfl rfl rfl rfl rfl (by kernel_rfl) (Bks.cons hB.blk (Bks.cons o0_0.blk Bks.nil)) (fun H hS => Lod.ld sc3 rfl hS.hd (hc 4 (by decide))) ?_
      refine RegD.gtpur (i := 10) rfl rfl rfl rfl rfl rfl (by kernel_rfl) (Pur.eql rfl rfl) ?_
      refine RegD.tpur (i := 11) rfl rfl rfl rfl (by kernel_rfl) (Pur.pickT rfl rfl) ?_
      refine RegD.done (by kernel_rfl) ?_
      refine At.cond rfl rfl (fun q130 => ?_) (fun q130 => ?_)
      · first | (simp only [decide_eq_true_eq, decide_eq_false_iff_not, Bool.not_eq_true', Bool.not_eq_false', ne_eq, Decidable.not_not, Bool.not_eq_true, Bool.not_eq_false] at q130) | (dsimp only at q130) | skip
        have h6 : kp v = 6 := by simp_all
        have hnm : vn = (el L i).getD 4 0 := by simp_all
        obtain ⟨one, two, b1, d1, b2, d2, rfl, rfl, hG1, hone, rfl, hG2, htwo⟩ := op_of hv h6
        obtain ⟨n1, i1, p1, q1, r1, hd1⟩ := repV_cells hone
        rw [hd1] at hone
        obtain ⟨n2, i2, p2, q2, r2, hd2⟩ := repV_cells htwo
        rw [hd2] at htwo
        have hB1 := hM.fz.st _ _ hG1
        have hne1 := hM.gne hG1
        have hB2 := hM.fz.st _ _ hG2
        have hne2 := hM.gne hG2
        have z_hB1 := hB1.lt
        have z_hB2 := hB2.lt
        refine At.drawE ((Bks.cons hB.blk (Bks.cons hfb.blk (Bks.cons o0_0.blk (Bks.cons hB1.blk (Bks.cons hB2.blk Bks.nil)))))) [] mixed rfl rfl ?_
        refine RegD.tpur (i := 0) rfl rfl rfl rfl (by kernel_rfl) (Pur.mv rfl) ?_
        refine RegD.tpur (i := 1) rfl rfl rfl rfl (by kernel_rfl) (Pur.mv rfl) ?_
        refine RegD.tpur (i := 2) rfl rfl rfl rfl (by kernel_rfl) (Pur.nilc rfl) ?_
        refine RegD.tpur (i := 3) rfl rfl rfl rfl (by kernel_rfl) (Pur.fld _ fo37_3 rfl) ?_
        refine RegD.take (i := 4) rfl rfl rfl rfl (by kernel_rfl) (Bks.cons hB.blk (Bks.cons hfb.blk (Bks.cons o0_0.blk (Bks.cons hB1.blk (Bks.cons hB2.blk Bks.nil))))) (fun H hS => Lod.ld sc3 rfl hS.hd (hc 3 (by decide))) ?_
        refine RegD.tpur (i := 5) rfl rfl rfl rfl (by kernel_rfl) (Pur.mv rfl) ?_
        refine RegD.tpur (i := 6) rfl rfl rfl rfl (by kernel_rfl) (Pur.nilc rfl) ?_
        refine RegD.tpur (i := 7) rfl rfl rfl rfl (by kernel_rfl) (Pur.fld _ fo71_2 rfl) ?_
        refine RegD.take (i := 8) rfl rfl rfl rfl (by kernel_rfl) (Bks.cons hB.blk (Bks.cons hfb.blk (Bks.cons o0_0.blk (Bks.cons hB1.blk (Bks.cons hB2.blk Bks.nil))))) (fun H hS => Lod.ld sc47 rfl hS.tl.hd rfl) ?_
        refine RegD.tpur (i := 9) rfl rfl rfl rfl (by kernel_rfl) (Pur.mv rfl) ?_
        refine RegD.tpur (i := 10) rfl rfl rfl rfl (by kernel_rfl) (Pur.nilc rfl) ?_
        refine RegD.tpur (i := 11) rfl rfl rfl rfl (by kernel_rfl) (Pur.fld _ fo37_6 rfl) ?_
        refine RegD.take (i := 12) rfl rfl rfl rfl (by kernel_rfl) (Bks.cons hB.blk (Bks.cons hfb.blk (Bks.cons o0_0.blk (Bks.cons hB1.blk (Bks.cons hB2.blk Bks.nil))))) (fun H hS => Lod.ld sc3 rfl hS.hd (hc 6 (by decide))) ?_
        refine RegD.tpur (i := 13) rfl rfl rfl rfl (by kernel_rfl) (Pur.fld _ fo68_4 rfl) ?_
        refine RegD.take (i := 14) rfl rfl rfl rfl (by kernel_rfl) (Bks.cons hB.blk (Bks.cons hfb.blk (Bks.cons o0_0.blk (Bks.cons hB1.blk (Bks.cons hB2.blk Bks.nil))))) (fun H hS => Lod.ld sc48 rfl hS.tl.tl.hd rfl) ?_
        refine RegD.tpur (i := 15) rfl rfl rfl rfl (by kernel_rfl) (Pur.nilc rfl) ?_
        refine RegD.take (i := 16) rfl rfl rfl rfl (by kernel_rfl) (Bks.cons hB.blk (Bks.cons hfb.blk (Bks.cons o0_0.blk (Bks.cons hB1.blk (Bks.cons hB2.blk Bks.nil))))) (fun H hS => Lod.ldn ag68 rfl hS.tl.tl.tl.hd hd1 rfl) ?_
        refine RegD.tpur (i := 18) rfl rfl rfl rfl (by kernel_rfl) (Pur.mv rfl) ?_
        refine RegD.tpur (i := 19) rfl rfl rfl rfl (by kernel_rfl) (Pur.nilc rfl) ?_
        refine RegD.tpur (i := 20) rfl rfl rfl rfl (by kernel_rfl) (Pur.fld _ fo37_7 rfl) ?_
        refine RegD.take (i := 21) rfl rfl rfl rfl (by kernel_rfl) (Bks.cons hB.blk (Bks.cons hfb.blk (Bks.cons o0_0.blk (Bks.cons hB1.blk (Bks.cons hB2.blk Bks.nil))))) (fun H hS => Lod.ld sc3 rfl hS.hd (hc 7 (by decide))) ?_
        refine RegD.tpur (i := 22) rfl rfl rfl rfl (by kernel_rfl) (Pur.fld _ fo68_5 rfl) ?_
        refine RegD.take (i := 23) rfl rfl rfl rfl (by kernel_rfl) (Bks.cons hB.blk (Bks.cons hfb.blk (Bks.cons o0_0.blk (Bks.cons hB1.blk (Bks.cons hB2.blk Bks.nil))))) (fun H hS => Lod.ld sc48 rfl hS.tl.tl.hd rfl) ?_
        refine RegD.tpur (i := 24) rfl rfl rfl rfl (by kernel_rfl) (Pur.nilc rfl) ?_
        refine RegD.take (i := 25) rfl rfl rfl rfl (by kernel_rfl) (Bks.cons hB.blk (Bks.cons hfb.blk (Bks.cons o0_0.blk (Bks.cons hB1.blk (Bks.cons hB2.blk Bks.nil))))) (fun H hS => Lod.ldn ag68 rfl hS.tl.tl.tl.tl.hd hd2 rfl) ?_

        refine RegD.one (i := 17) (by kernel_rfl) rfl rfl rfl rfl (Does.call rfl (with_ok hM hone hen _)) ?_
        rintro v9 H22_17 ⟨G1, hle1, hen1, hM1, hE22_17⟩
        have z22_17 := hE22_17.lt
        first | replace hL := hL.ext hE22_17 | skip
        replace hB := hB.ext hE22_17
        replace hfb := hfb.ext hE22_17
        replace o0_0 := o0_0.ext hE22_17
        replace hB1 := hB1.ext hE22_17
        replace hB2 := hB2.ext hE22_17
        refine ⟨fun _ _ => (Bks.cons hB.blk (Bks.cons hfb.blk (Bks.cons o0_0.blk (Bks.cons hB1.blk (Bks.cons hB2.blk Bks.nil))))), ?_⟩
        refine RegD.one (i := 26) (by kernel_rfl) rfl rfl rfl rfl (Does.call rfl (with_ok hM1 (repV_mono hle1 _ _ htwo) hen1 _)) ?_
        rintro v10 H22_26 ⟨G2, hle2, hen2, hM2, hE22_26⟩
        have z22_26 := hE22_26.lt
        first | replace hL := hL.ext hE22_26 | skip
        replace hB := hB.ext hE22_26
        replace hfb := hfb.ext hE22_26
        replace o0_0 := o0_0.ext hE22_26
        replace hB1 := hB1.ext hE22_26
        replace hB2 := hB2.ext hE22_26
        refine ⟨fun _ _ => (Bks.cons hB.blk (Bks.cons hfb.blk (Bks.cons o0_0.blk (Bks.cons hB1.blk (Bks.cons hB2.blk Bks.nil))))), ?_⟩
        refine RegD.one (i := 27) (by kernel_rfl) rfl rfl rfl rfl (Does.call rfl (goes_ok hM2 _ _ (repE_cell hen2))) ?_
        rintro _ H22_27 ⟨hM3, hbut22_27⟩
        have z22_27 := hbut22_27.lt
        first | replace hL := hL.via hbut22_27 (by first | omega | (intro g; omega) | (intro g hg; omega) | (intro g hg h; omega)) | skip
        replace hB := hB.via hbut22_27 (by first | omega | (intro g; omega) | (intro g hg; omega) | (intro g hg h; omega))
        replace hfb := hfb.via hbut22_27 (by first | omega | (intro g; omega) | (intro g hg; omega) | (intro g hg h; omega))
        replace o0_0 := o0_0.via hbut22_27 (by first | omega | (intro g; omega) | (intro g hg; omega) | (intro g hg h; omega))
        replace hB1 := hB1.via hbut22_27 (by first | omega | (intro g; omega) | (intro g hg; omega) | (intro g hg h; omega))
        replace hB2 := hB2.via hbut22_27 (by first | omega | (intro g; omega) | (intro g hg; omega) | (intro g hg h; omega))
        refine ⟨fun _ _ => (Bks.cons hB.blk (Bks.cons hfb.blk (Bks.cons o0_0.blk (Bks.cons hB1.blk (Bks.cons hB2.blk Bks.nil))))), ?_⟩
        refine RegD.done (by kernel_rfl) ?_
        refine At.ret rfl Try.func28 rfl ?_
        rw [show fstM 12 (el L i) i fr en hd (.op vn one two) = _ from case_own hnm]
        exact After.ev hM3 hL hen2
      first | (simp only [decide_eq_true_eq, decide_eq_false_iff_not, Bool.not_eq_true', Bool.not_eq_false', ne_eq, Decidable.not_not, Bool.not_eq_true, Bool.not_eq_false] at q130) | (dsimp only at q130) | skip
      have hno : ∀ n one two, v = .op n one two → n ≠ (el L i).getD 4 0 := by
        rintro n one two rfl rfl
        simp only [repV] at hv
        obtain ⟨b1, d1, b2, d2, hcs, _⟩ := hv
        simp_all [kp]
      refine At.region rfl rfl ?_
      refine Reg.pur rfl rfl rfl rfl (Pur.asg rfl) ?_
      refine Reg.nil ?_
      refine At.drawE ((Bks.cons hfb.blk (Bks.cons hB.blk Bks.nil))) [8] mixed rfl rfl ?_
      refine RegD.tpur (i := 0) rfl rfl rfl rfl (by kernel_rfl) (Pur.mv rfl) ?_
      refine RegD.tpur (i := 1) rfl rfl rfl rfl (by kernel_rfl) (Pur.nilc rfl) ?_
      refine RegD.tpur (i := 2) rfl rfl rfl rfl (by kernel_rfl) (Pur.fld _ fo71_2 rfl) ?_
      refine RegD.take (i := 3) rfl rfl rfl rfl (by kernel_rfl) (Bks.cons hfb.blk (Bks.cons hB.blk Bks.nil)) (fun H hS => Lod.ld sc47 rfl hS.hd rfl) ?_
      refine RegD.tpur (i := 4) rfl rfl rfl rfl (by kernel_rfl) (Pur.mv rfl) ?_
      refine RegD.tpur (i := 5) rfl rfl rfl rfl (by kernel_rfl) (Pur.nilc rfl) ?_
      refine RegD.tpur (i := 6) rfl rfl rfl rfl (by kernel_rfl) (Pur.fld _ fo37_8 rfl) ?_
      refine RegD.take (i := 7) rfl rfl rfl rfl (by kernel_rfl) (Bks.cons hfb.blk (Bks.cons hB.blk Bks.nil)) (fun H hS => Lod.ld sc3 rfl hS.tl.hd (hc 8 (by decide))) ?_
      refine RegD.one (i := 8) (by kernel_rfl) rfl rfl rfl rfl (Does.call rfl (find_ok hM.fz.st _ en _ hen)) ?_
      rintro pf H0_0 ⟨hfd, rfl⟩
      refine ⟨fun h => (by cases h), ?_⟩
      refine RegD.tpur (i := 9) rfl rfl rfl rfl (by kernel_rfl) (Pur.asg rfl) ?_
      refine RegD.done (by kernel_rfl) ?_
      obtain ⟨Ar, rfl, hr1, hr2⟩ := fnd_ptr hfd
      refine At.region rfl rfl ?_
      refine Reg.pur rfl rfl rfl rfl (Pur.mv rfl) ?_
      refine Reg.pur rfl rfl rfl rfl (Pur.nePN isPt48 rfl rfl) ?_
      refine Reg.nil ?_
      refine At.cond rfl rfl (fun q169 => ?_) (fun q169 => ?_)
      · first | (simp only [decide_eq_true_eq, decide_eq_false_iff_not, Bool.not_eq_true', Bool.not_eq_false', ne_eq, Decidable.not_not, Bool.not_eq_true, Bool.not_eq_false] at q169) | (dsimp only at q169) | skip
        refine At.region rfl rfl ?_
        refine Reg.pur rfl rfl rfl rfl (Pur.fld _ fo68_5 rfl) ?_
        refine Reg.lod rfl rfl rfl rfl (Lod.ld sc48 rfl o0_0.blk rfl) ?_
        refine Reg.pur rfl rfl rfl rfl (Pur.mv rfl) ?_
        refine Reg.pur rfl rfl rfl rfl (Pur.bld (cs := [_, _, _, _, _, _]) pl68 zc68 rfl rfl ⟨rfl, rfl, rfl, rfl, rfl, rfl, rfl⟩) ?_
        refine Reg.op rfl rfl rfl rfl (Does.box rfl rfl) ?_
        rintro _ H26_4 ⟨rfl, hn26_4⟩
        have z26_4 := hn26_4.size
        first | replace hL := hL.ext hn26_4.ext | skip
        replace hM := hM.ext hn26_4.ext
        replace hB := hB.ext hn26_4.ext
        replace hfb := hfb.ext hn26_4.ext
        replace o0_0 := o0_0.ext hn26_4.ext
        have o26_4 := hn26_4.own
        refine Reg.pur rfl rfl rfl rfl (Pur.asg rfl) ?_
        refine Reg.nil ?_
        obtain ⟨hfn, hrp⟩ := hr2 (by simpa using q169)
        have hMb := hM.add o26_4.blk (by omega)
        have hle := gset_le (b := H0_0.size) (c := [I 4, I 0, I 0, nilp, .pointer vr, .pointer Ar]) hM.fz (by omega)
        have hon : kp v = 6 → Onw (Gset G H0_0.size [I 4, I 0, I 0, nilp, .pointer vr, .pointer Ar]) (cOn (findN en ((el L i).getD 8 0)) v) (ptr H0_0.size 0) := by
          intro h6
          obtain ⟨one, two, b1, d1, b2, d2, rfl, rfl, hG1, hone, rfl, hG2, htwo⟩ := op_of hv h6
          obtain ⟨b3, d3, he3, hG3, hh3⟩ := hrp
          have hcc : cOn (findN en ((el L i).getD 8 0)) (.op vn one two) = some (.fwd two (findN en ((el L i).getD 8 0))) := by
            simp only [cOn]
          rw [hcc]
          refine ⟨_, _, rfl, gset_at _ _ _, ?_⟩
          simp only [repV]
          exact ⟨b2, d2, b3, d3, (by rw [he3]; rfl), hle _ _ hG2, repV_mono hle _ _ htwo, hle _ _ hG3, repV_mono hle _ _ hh3⟩
        have hcmp := computed_ok (on := cOn (findN en ((el L i).getD 8 0)) v) hT hMb ⟨hn0, hn1⟩ (.inr hkk) hfb hfm (repE_mono hle _ _ hen) (repV_mono hle _ _ hv) hon hl
        refine At.region rfl rfl ?_
        refine Reg.pur rfl rfl rfl rfl (Pur.mv rfl) ?_
        refine Reg.pur rfl rfl rfl rfl (Pur.mv rfl) ?_
        refine Reg.lod rfl rfl rfl rfl (Lod.ldn ag68 rfl o0_0.blk (whole rfl) rfl) ?_
        refine Reg.pur rfl rfl rfl rfl (Pur.mv rfl) ?_

        refine Reg.op rfl rfl rfl rfl (Does.call rfl (hcmp)) ?_
        rintro _ H27_4 ⟨hbut27_4, hAf⟩
        have z27_4 := hbut27_4.lt
        first | replace hL := hL.via hbut27_4 (by first | omega | (intro g; omega) | (intro g hg; omega) | (intro g hg h; omega)) | skip
        replace hB := hB.via hbut27_4 (by first | omega | (intro g; omega) | (intro g hg; omega) | (intro g hg h; omega))
        replace hfb := hfb.via hbut27_4 (by first | omega | (intro g; omega) | (intro g hg; omega) | (intro g hg h; omega))
        replace o0_0 := o0_0.via hbut27_4 (by first | omega | (intro g; omega) | (intro g hg; omega) | (intro g hg h; omega))
        replace o26_4 := o26_4.via hbut27_4 (by first | omega | (intro g; omega) | (intro g hg; omega) | (intro g hg h; omega))
        refine Reg.nil ?_
        refine At.fall rfl Try.func28 rfl ?_
        rw [show fstM 12 (el L i) i fr en hd v = _ from case_comp hno]
        exact ⟨hL.but, hAf⟩
      first | (simp only [decide_eq_true_eq, decide_eq_false_iff_not, Bool.not_eq_true', Bool.not_eq_false', ne_eq, Decidable.not_not, Bool.not_eq_true, Bool.not_eq_false] at q169) | (dsimp only at q169) | skip
      have hfn := hr1 (by simpa using q169)
      have hon : kp v = 6 → Onw G (cOn (findN en ((el L i).getD 8 0)) v) nilp := by
        intro h6
        obtain ⟨one, two, b1, d1, b2, d2, rfl, rfl, hG1, hone, rfl, hG2, htwo⟩ := op_of hv h6
        rw [hfn]
        rfl
      have hcmp := computed_ok (on := cOn (findN en ((el L i).getD 8 0)) v) hT hM ⟨hn0, hn1⟩ (.inr hkk) hfb hfm hen hv hon hl
      refine At.region rfl rfl ?_
      refine Reg.pur rfl rfl rfl rfl (Pur.mv rfl) ?_
      refine Reg.pur rfl rfl rfl rfl (Pur.mv rfl) ?_
      refine Reg.lod rfl rfl rfl rfl (Lod.ldn ag68 rfl o0_0.blk (whole rfl) rfl) ?_
      refine Reg.pur rfl rfl rfl rfl (Pur.mv rfl) ?_

      refine Reg.op rfl rfl rfl rfl (Does.call rfl (hcmp)) ?_
      rintro _ H27_4 ⟨hbut27_4, hAf⟩
      have z27_4 := hbut27_4.lt
      first | replace hL := hL.via hbut27_4 (by first | omega | (intro g; omega) | (intro g hg; omega) | (intro g hg h; omega)) | skip
      replace hB := hB.via hbut27_4 (by first | omega | (intro g; omega) | (intro g hg; omega) | (intro g hg h; omega))
      replace hfb := hfb.via hbut27_4 (by first | omega | (intro g; omega) | (intro g hg; omega) | (intro g hg h; omega))
      replace o0_0 := o0_0.via hbut27_4 (by first | omega | (intro g; omega) | (intro g hg; omega) | (intro g hg h; omega))
      refine Reg.nil ?_
      refine At.fall rfl Try.func28 rfl ?_
      rw [show fstM 12 (el L i) i fr en hd v = _ from case_comp hno]
      exact ⟨hL.but, hAf⟩
    first | (simp only [decide_eq_true_eq, decide_eq_false_iff_not, Bool.not_eq_true', Bool.not_eq_false', ne_eq, Decidable.not_not, Bool.not_eq_true, Bool.not_eq_false] at q122) | (dsimp only at q122) | skip
    refine RegD.skip (i := 4) rfl rfl rfl rfl rfl rfl rfl (by kernel_rfl) ?_
    refine RegD.skip (i := 5) rfl rfl rfl rfl rfl rfl rfl (by kernel_rfl) ?_
    refine RegD.skip (i := 6) rfl rfl rfl rfl rfl rfl rfl (by kernel_rfl) ?_
    refine RegD.skip (i := 7) rfl rfl rfl rfl rfl rfl rfl (by kernel_rfl) ?_
    refine RegD.skip (i := 8) rfl rfl rfl rfl rfl rfl rfl (by kernel_rfl) ?_
    refine RegD.skip (i := 9) rfl rfl rfl rfl rfl rfl rfl (by kernel_rfl) ?_
    refine RegD.skip (i := 10) rfl rfl rfl rfl rfl rfl rfl (by kernel_rfl) ?_
    refine RegD.tpur (i := 11) rfl rfl rfl rfl (by kernel_rfl) (Pur.pickF rfl rfl) ?_
    refine RegD.done (by kernel_rfl) ?_
    refine At.condF rfl rfl rfl ?_
    have hno : ∀ n one two, v = .op n one two → n ≠ (el L i).getD 4 0 := by
      rintro n one two rfl rfl
      simp only [repV] at hv
      obtain ⟨b1, d1, b2, d2, hcs, _⟩ := hv
      simp_all [kp]
    refine At.region rfl rfl ?_
    refine Reg.pur rfl rfl rfl rfl (Pur.asg rfl) ?_
    refine Reg.nil ?_
    refine At.drawE ((Bks.cons hfb.blk (Bks.cons hB.blk Bks.nil))) [8] mixed rfl rfl ?_
    refine RegD.tpur (i := 0) rfl rfl rfl rfl (by kernel_rfl) (Pur.mv rfl) ?_
    refine RegD.tpur (i := 1) rfl rfl rfl rfl (by kernel_rfl) (Pur.nilc rfl) ?_
    refine RegD.tpur (i := 2) rfl rfl rfl rfl (by kernel_rfl) (Pur.fld _ fo71_2 rfl) ?_
    refine RegD.take (i := 3) rfl rfl rfl rfl (by kernel_rfl) (Bks.cons hfb.blk (Bks.cons hB.blk Bks.nil)) (fun H hS => Lod.ld sc47 rfl hS.hd rfl) ?_
    refine RegD.tpur (i := 4) rfl rfl rfl rfl (by kernel_rfl) (Pur.mv rfl) ?_
    refine RegD.tpur (i := 5) rfl rfl rfl rfl (by kernel_rfl) (Pur.nilc rfl) ?_
    refine RegD.tpur (i := 6) rfl rfl rfl rfl (by kernel_rfl) (Pur.fld _ fo37_8 rfl) ?_
    refine RegD.take (i := 7) rfl rfl rfl rfl (by kernel_rfl) (Bks.cons hfb.blk (Bks.cons hB.blk Bks.nil)) (fun H hS => Lod.ld sc3 rfl hS.tl.hd (hc 8 (by decide))) ?_
    refine RegD.one (i := 8) (by kernel_rfl) rfl rfl rfl rfl (Does.call rfl (find_ok hM.fz.st _ en _ hen)) ?_
    rintro pf H0_0 ⟨hfd, rfl⟩
    refine ⟨fun h => (by cases h), ?_⟩
    refine RegD.tpur (i := 9) rfl rfl rfl rfl (by kernel_rfl) (Pur.asg rfl) ?_
    refine RegD.done (by kernel_rfl) ?_
    obtain ⟨Ar, rfl, hr1, hr2⟩ := fnd_ptr hfd
    refine At.region rfl rfl ?_
    refine Reg.pur rfl rfl rfl rfl (Pur.mv rfl) ?_
    refine Reg.pur rfl rfl rfl rfl (Pur.nePN isPt48 rfl rfl) ?_
    refine Reg.nil ?_
    refine At.cond rfl rfl (fun q169 => ?_) (fun q169 => ?_)
    · first | (simp only [decide_eq_true_eq, decide_eq_false_iff_not, Bool.not_eq_true', Bool.not_eq_false', ne_eq, Decidable.not_not, Bool.not_eq_true, Bool.not_eq_false] at q169) | (dsimp only at q169) | skip
      refine At.region rfl rfl ?_
      refine Reg.pur rfl rfl rfl rfl (Pur.fld _ fo68_5 rfl) ?_
      refine Reg.lod rfl rfl rfl rfl (Lod.ld sc48 rfl o0_0.blk rfl) ?_
      refine Reg.pur rfl rfl rfl rfl (Pur.mv rfl) ?_
      refine Reg.pur rfl rfl rfl rfl (Pur.bld (cs := [_, _, _, _, _, _]) pl68 zc68 rfl rfl ⟨rfl, rfl, rfl, rfl, rfl, rfl, rfl⟩) ?_
      refine Reg.op rfl rfl rfl rfl (Does.box rfl rfl) ?_
      rintro _ H26_4 ⟨rfl, hn26_4⟩
      have z26_4 := hn26_4.size
      first | replace hL := hL.ext hn26_4.ext | skip
      replace hM := hM.ext hn26_4.ext
      replace hB := hB.ext hn26_4.ext
      replace hfb := hfb.ext hn26_4.ext
      replace o0_0 := o0_0.ext hn26_4.ext
      have o26_4 := hn26_4.own
      refine Reg.pur rfl rfl rfl rfl (Pur.asg rfl) ?_
      refine Reg.nil ?_
      obtain ⟨hfn, hrp⟩ := hr2 (by simpa using q169)
      have hMb := hM.add o26_4.blk (by omega)
      have hle := gset_le (b := H0_0.size) (c := [I 4, I 0, I 0, nilp, .pointer vr, .pointer Ar]) hM.fz (by omega)
      have hon : kp v = 6 → Onw (Gset G H0_0.size [I 4, I 0, I 0, nilp, .pointer vr, .pointer Ar]) (cOn (findN en ((el L i).getD 8 0)) v) (ptr H0_0.size 0) := by
        intro h6
        obtain ⟨one, two, b1, d1, b2, d2, rfl, rfl, hG1, hone, rfl, hG2, htwo⟩ := op_of hv h6
        obtain ⟨b3, d3, he3, hG3, hh3⟩ := hrp
        have hcc : cOn (findN en ((el L i).getD 8 0)) (.op vn one two) = some (.fwd two (findN en ((el L i).getD 8 0))) := by
          simp only [cOn]
        rw [hcc]
        refine ⟨_, _, rfl, gset_at _ _ _, ?_⟩
        simp only [repV]
        exact ⟨b2, d2, b3, d3, (by rw [he3]; rfl), hle _ _ hG2, repV_mono hle _ _ htwo, hle _ _ hG3, repV_mono hle _ _ hh3⟩
      have hcmp := computed_ok (on := cOn (findN en ((el L i).getD 8 0)) v) hT hMb ⟨hn0, hn1⟩ (.inr hkk) hfb hfm (repE_mono hle _ _ hen) (repV_mono hle _ _ hv) hon hl
      refine At.region rfl rfl ?_
      refine Reg.pur rfl rfl rfl rfl (Pur.mv rfl) ?_
      refine Reg.pur rfl rfl rfl rfl (Pur.mv rfl) ?_
      refine Reg.lod rfl rfl rfl rfl (Lod.ldn ag68 rfl o0_0.blk (whole rfl) rfl) ?_
      refine Reg.pur rfl rfl rfl rfl (Pur.mv rfl) ?_

      refine Reg.op rfl rfl rfl rfl (Does.call rfl (hcmp)) ?_
      rintro _ H27_4 ⟨hbut27_4, hAf⟩
      have z27_4 := hbut27_4.lt
      first | replace hL := hL.via hbut27_4 (by first | omega | (intro g; omega) | (intro g hg; omega) | (intro g hg h; omega)) | skip
      replace hB := hB.via hbut27_4 (by first | omega | (intro g; omega) | (intro g hg; omega) | (intro g hg h; omega))
      replace hfb := hfb.via hbut27_4 (by first | omega | (intro g; omega) | (intro g hg; omega) | (intro g hg h; omega))
      replace o0_0 := o0_0.via hbut27_4 (by first | omega | (intro g; omega) | (intro g hg; omega) | (intro g hg h; omega))
      replace o26_4 := o26_4.via hbut27_4 (by first | omega | (intro g; omega) | (intro g hg; omega) | (intro g hg h; omega))
      refine Reg.nil ?_
      refine At.fall rfl Try.func28 rfl ?_
      rw [show fstM 12 (el L i) i fr en hd v = _ from case_comp hno]
      exact ⟨hL.but, hAf⟩
    first | (simp only [decide_eq_true_eq, decide_eq_false_iff_not, Bool.not_eq_true', Bool.not_eq_false', ne_eq, Decidable.not_not, Bool.not_eq_true, Bool.not_eq_false] at q169) | (dsimp only at q169) | skip
    have hfn := hr1 (by simpa using q169)
    have hon : kp v = 6 → Onw G (cOn (findN en ((el L i).getD 8 0)) v) nilp := by
      intro h6
      obtain ⟨one, two, b1, d1, b2, d2, rfl, rfl, hG1, hone, rfl, hG2, htwo⟩ := op_of hv h6
      rw [hfn]
      rfl
    have hcmp := computed_ok (on := cOn (findN en ((el L i).getD 8 0)) v) hT hM ⟨hn0, hn1⟩ (.inr hkk) hfb hfm hen hv hon hl
    refine At.region rfl rfl ?_
    refine Reg.pur rfl rfl rfl rfl (Pur.mv rfl) ?_
    refine Reg.pur rfl rfl rfl rfl (Pur.mv rfl) ?_
    refine Reg.lod rfl rfl rfl rfl (Lod.ldn ag68 rfl o0_0.blk (whole rfl) rfl) ?_
    refine Reg.pur rfl rfl rfl rfl (Pur.mv rfl) ?_

    refine Reg.op rfl rfl rfl rfl (Does.call rfl (hcmp)) ?_
    rintro _ H27_4 ⟨hbut27_4, hAf⟩
    have z27_4 := hbut27_4.lt
    first | replace hL := hL.via hbut27_4 (by first | omega | (intro g; omega) | (intro g hg; omega) | (intro g hg h; omega)) | skip
    replace hB := hB.via hbut27_4 (by first | omega | (intro g; omega) | (intro g hg; omega) | (intro g hg h; omega))
    replace hfb := hfb.via hbut27_4 (by first | omega | (intro g; omega) | (intro g hg; omega) | (intro g hg h; omega))
    replace o0_0 := o0_0.via hbut27_4 (by first | omega | (intro g; omega) | (intro g hg; omega) | (intro g hg h; omega))
    refine Reg.nil ?_
    refine At.fall rfl Try.func28 rfl ?_
    rw [show fstM 12 (el L i) i fr en hd v = _ from case_comp hno]
    exact ⟨hL.but, hAf⟩
  first | (simp only [decide_eq_true_eq, decide_eq_false_iff_not, Bool.not_eq_true', Bool.not_eq_false', ne_eq, Decidable.not_not, Bool.not_eq_true, Bool.not_eq_false] at q117) | (dsimp only at q117) | skip
  refine At.fall rfl Try.func28 rfl ?_
  exfalso
  omega
end Go.Proofs.Ytjhkmebmbopfoaa
