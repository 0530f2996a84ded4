/-
  Chapter 21: the reference's machine: a function that is given a value; computations.
-/
import Derived.Test.YtjhkmebmbopfoaaMacM
import Derived.Test.YtjhkmebmbopfoaaFxW
namespace Go.Proofs.Ytjhkmebmbopfoaa
set_option linter.unusedSimpArgs false
set_option linter.unusedVariables false
set_option maxRecDepth 8000
set_option maxHeartbeats 2000000
open Go Go.Fx Go.Proofs
namespace FactsMacN
theorem ag37 : ag Try.prog 37 = some 9 := by kernel_rfl
theorem ag58 : ag Try.prog 58 = some 7 := by kernel_rfl
theorem es22 : esz Try.prog 22 = some 9 := by kernel_rfl
theorem fo37_0 : foff Try.prog 37 0 = some 0 := by kernel_rfl
theorem fo37_1 : foff Try.prog 37 1 = some 1 := by kernel_rfl
theorem fo37_2 : foff Try.prog 37 2 = some 2 := by kernel_rfl
theorem fo37_5 : foff Try.prog 37 5 = some 5 := by kernel_rfl
theorem fo37_6 : foff Try.prog 37 6 = some 6 := by kernel_rfl
theorem fo58_0 : foff Try.prog 58 0 = some 0 := by kernel_rfl
theorem fo58_1 : foff Try.prog 58 1 = some 1 := by kernel_rfl
theorem fo58_2 : foff Try.prog 58 2 = some 2 := by kernel_rfl
theorem fo58_3 : foff Try.prog 58 3 = some 3 := by kernel_rfl
theorem fo58_5 : foff Try.prog 58 5 = some 5 := by kernel_rfl
theorem fo58_6 : foff Try.prog 58 6 = some 6 := by kernel_rfl
theorem fo60_0 : foff Try.prog 60 0 = some 0 := by kernel_rfl
theorem fo60_5 : foff Try.prog 60 5 = some 5 := by kernel_rfl
theorem fo76_1 : foff Try.prog 76 1 = some 1 := by kernel_rfl
theorem fo76_2 : foff Try.prog 76 2 = some 2 := by kernel_rfl
theorem mixed : Try.prog.follows .mixedOrders = true := by kernel_rfl
theorem pl58 : places Try.prog 58 = some [(0, 1), (1, 1), (2, 1), (3, 1), (4, 1), (5, 1), (6, 1)] := by kernel_rfl
theorem sc22 : sc Try.prog 22 = true := by kernel_rfl
theorem sc3 : sc Try.prog 3 = true := by kernel_rfl
theorem sc55 : sc Try.prog 55 = true := by kernel_rfl
theorem sc56 : sc Try.prog 56 = true := by kernel_rfl
theorem zc37 : zc Try.prog 37 = some [.int .i64 0, .int .i64 0, .int .i64 0, .int .i64 0, .int .i64 0, .int .i64 0, .int .i64 0, .int .i64 0, .int .i64 0] := by kernel_rfl
theorem zc58 : zc Try.prog 58 = some [.int .i64 0, .int .i64 0, .int .i64 0, .pointer none, .slice none 0 0, .pointer none, .pointer none] := by kernel_rfl
end FactsMacN
open FactsMacN

section kinds
variable {G : Gh} {t : T} {k n i : Int} {p q r : Option Addr}
theorem rfn_of (h : rqV G t [I k, I n, I i, .pointer p, nils, .pointer q, .pointer r]) (hk : kd t = 2) : ∃ en, t = .fn i en ∧ rqE G en (.pointer p) := by
  cases t <;> simp only [kd] at hk <;> (try omega)
  simp only [rqV] at h
  obtain ⟨P, h, hp⟩ := h
  simp only [List.cons.injEq, Value.int.injEq, true_and] at h
  obtain ⟨_, _, rfl, rfl, _⟩ := h
  exact ⟨_, rfl, hp⟩
theorem rbnd_of (h : rqV G t [I k, I n, I i, .pointer p, nils, .pointer q, .pointer r]) (hk : kd t = 7) : ∃ en one b d, t = .bnd i en one ∧ rqE G en (.pointer p) ∧ q = some ⟨b, 0, none⟩ ∧ G b = some d ∧ rqV G one d := by
  cases t <;> simp only [kd] at hk <;> (try omega)
  simp only [rqV] at h
  obtain ⟨P, b, d, h, hp, h1, h2⟩ := h
  simp only [List.cons.injEq, Value.int.injEq, Value.pointer.injEq, true_and] at h
  obtain ⟨_, _, rfl, rfl, rfl, _⟩ := h
  exact ⟨_, _, b, d, rfl, hp, rfl, h1, h2⟩
theorem rfwd_of (h : rqV G t [I k, I n, I i, .pointer p, nils, .pointer q, .pointer r]) (hk : kd t = 8) : ∃ one two b d b' d', t = .fwd one two ∧ r = some ⟨b, 0, none⟩ ∧ G b = some d ∧ rqV G one d ∧ q = some ⟨b', 0, none⟩ ∧ G b' = some d' ∧ rqV G two d' := by
  cases t <;> simp only [kd] at hk <;> (try omega)
  simp only [rqV] at h
  obtain ⟨b, d, b', d', h, h1, h2, h3, h4⟩ := h
  simp only [List.cons.injEq, Value.int.injEq, Value.pointer.injEq, true_and] at h
  obtain ⟨_, _, _, _, rfl, rfl, _⟩ := h
  exact ⟨_, _, b, d, b', d', rfl, rfl, h1, h2, rfl, h3, h4⟩
theorem rop_of (h : rqV G t [I k, I n, I i, .pointer p, nils, .pointer q, .pointer r]) (hk : kd t = 6) : ∃ one two b d b' d', t = .op n one two ∧ q = some ⟨b, 0, none⟩ ∧ G b = some d ∧ rqV G one d ∧ r = some ⟨b', 0, none⟩ ∧ G b' = some d' ∧ rqV G two d' := by
  cases t <;> simp only [kd] at hk <;> (try omega)
  simp only [rqV] at h
  obtain ⟨b, d, b', d', h, h1, h2, h3, h4⟩ := h
  simp only [List.cons.injEq, Value.int.injEq, Value.pointer.injEq, true_and] at h
  obtain ⟨_, rfl, _, _, rfl, rfl, _⟩ := h
  exact ⟨_, _, b, d, b', d', rfl, rfl, h1, h2, rfl, h3, h4⟩
end kinds
def ShapeR (G : Gh) (fr : List Fr) (ev : Bool) (nd : Int) (pe : Value) (vc : List Value) (dn : Bool) (o1 o2 : Int) : Ou → Prop
  | .go (.ev fr' node env) => fr = fr' ∧ ev = true ∧ nd = node ∧ rqE G env pe ∧ dn = false
  | .go (.gv fr' v) => fr = fr' ∧ ev = false ∧ rqV G v vc ∧ dn = false
  | .fin k n => dn = true ∧ o1 = k ∧ o2 = n ∧ fr.length ≤ 4096
def AfterR (L : List (List Int)) (N : Value) (m B : Nat) (a : Int) (H0 : Heap) (ou : Ou) (H : Heap) : Prop :=
  But (fun g => g = m ∨ (g : Int) = a) H0 H ∧ ∃ G fr A cap ev nd pe vc dn o1 o2, Qs L N m B G H.size H fr A cap ev nd pe vc dn o1 o2 ∧ ShapeR G fr ev nd pe vc dn o1 o2 ou
section aft
variable {L : List (List Int)} {N : Value} {m B : Nat} {G : Gh} {s : Nat} {a : Int} {H0 H : Heap} {fr : List Fr} {A : Option Addr} {cap : Nat} {e' dn : Bool} {nd o1 o2 : Int} {pe : Value} {vc : List Value}
theorem AfterR.ev {node : Int} {p : Value} {env : T} (hM : Qs L N m B G s H fr A cap true node p vc false o1 o2) (hL : Chm m a H0 H) (hp : rqE G env p) : AfterR L N m B a H0 (.go (.ev fr node env)) H :=
  ⟨hL.but, G, fr, A, cap, true, node, p, vc, false, o1, o2, hM.re hM.fz.hs (Nat.le_refl _), rfl, rfl, rfl, hp, rfl⟩
theorem AfterR.gv {v : T} (hM : Qs L N m B G s H fr A cap false nd pe vc false o1 o2) (hL : Chm m a H0 H) (hp : rqV G v vc) : AfterR L N m B a H0 (.go (.gv fr v)) H :=
  ⟨hL.but, G, fr, A, cap, false, nd, pe, vc, false, o1, o2, hM.re hM.fz.hs (Nat.le_refl _), rfl, rfl, hp, rfl⟩
theorem AfterR.fin {k n : Int} (hM : Qs L N m B G s H fr A cap e' nd pe vc true k n) (hL : Chm m a H0 H) (hl : fr.length ≤ 4096) : AfterR L N m B a H0 (.fin k n) H :=
  ⟨hL.but, G, fr, A, cap, e', nd, pe, vc, true, k, n, hM.re hM.fz.hs (Nat.le_refl _), rfl, rfl, rfl, hl⟩
end aft
theorem rqE_cell {G : Gh} {en : T} {p : Value} (h : rqE G en p) : p.oneCell' = true := by
  obtain ⟨A, rfl⟩ := rqE_one h; rfl
theorem rqF_call {G : Gh} {L : List (List Int)} {one : T} {c : List Value} {i : Int} (h : rqV G one c) (h0 : 0 ≤ i) (h1 : i < L.length) : rqF G L ⟨2, 0, .nil, one⟩ (I 1 :: I i :: nilp :: c) :=
  ⟨i, nilp, c, rfl, rqV_seven h, rqV_ones h, h0, h1, fun h => (h rfl).elim, by simp only [rqE], fun _ => h⟩
theorem rqF_node {G : Gh} {L : List (List Int)} {en : T} {p : Value} {i k : Int} (hk : fk L ⟨0, i, en, .nil⟩ = k) (h : rqE G en p) (h0 : 0 ≤ i) (h1 : i < L.length) : rqF G L ⟨0, i, en, .nil⟩ (I k :: I i :: p :: zv7) :=
  ⟨i, p, zv7, by rw [hk], rfl, rfl, h0, h1, fun _ => rfl, h, fun h => (h rfl).elim⟩
variable {L : List (List Int)} {N : Value} {m B : Nat} {G : Gh} {s : Nat} {fr : List Fr} {A : Option Addr} {cap : Nat} {ev dn : Bool} {nd' o1 o2 : Int} {pe : Value} {vc : List Value}
/-- .. of a node's kind -/
def fkn (k : Int) : Int := if k = 5 then 0 else if k = 6 then 2 else if k = 7 then 3 else if k = 8 then 4 else if k = 9 then 8 else if k = 10 then 9 else if k = 11 then 11 else 12
theorem fk_zero {L : List (List Int)} {i : Int} {en hd : T} : fk L ⟨0, i, en, hd⟩ = fkn ((el L i).getD 0 0) := rfl
theorem callMR_no {f v : T} (h2 : kd f ≠ 2) (h3 : kd f ≠ 7) (h4 : kd f ≠ 8) : callM L fr f v = .fin 5 0 := by
  cases f <;> simp only [kd] at h2 h3 h4 <;> first | rfl | omega
theorem callR_ok {H : Heap} (hT : Tm L) (hM : Qs L N m B G s H fr A cap false nd' pe vc false o1 o2) {f v : T} {fc : List Value} (hf : rqV G f fc) (hv : rqV G v vc) (hfv : f.isV L) (hl : fr.length ≤ 4096) :
    Ret Try.prog 55 [ptr m 0, .agg fc.toArray] H (fun _ H' => AfterR L N m B (ob A) H (callM L fr f v) H') := by
  obtain ⟨fn, fi, fp, fq, fz, rfl⟩ := rqV_cells hf
  obtain ⟨vn, vi, vp, vq, vr, rfl⟩ := rqV_cells hv
  have hL := Chm.refl m (ob A) H
  have zM := hM.lt
  refine Ret.of_at (N := 83) Try.call55 Try.func55 rfl rfl rfl ?_
  have hE := Ext.refl H
  have z_hL := hL.lt
  have z_hM := hM.lt
  refine At.region rfl rfl ?_
  refine Reg.op rfl rfl rfl rfl (Does.box rfl rfl) ?_
  rintro _ H0_0 ⟨rfl, hn0_0⟩
  have z0_0 := hn0_0.size
  first | replace hL := hL.ext hn0_0.ext | skip
  replace hM := hM.ext hn0_0.ext
  have o0_0 := hn0_0.own
  refine Reg.nil ?_
  refine At.region rfl rfl ?_
  refine Reg.pur rfl rfl rfl rfl (Pur.fld _ fo58_0 rfl) ?_
  refine Reg.lod rfl rfl rfl rfl (Lod.ld sc3 rfl o0_0.blk rfl) ?_
  refine Reg.nil ?_
  refine At.region rfl rfl ?_
  refine Reg.pur rfl rfl rfl rfl (Pur.eql rfl rfl) ?_
  refine Reg.pur rfl rfl rfl rfl (Pur.asg rfl) ?_
  refine Reg.nil ?_
  refine At.cond rfl rfl (fun q9 => ?_) (fun q9 => ?_)
  · first | (simp only [decide_eq_true_eq, decide_eq_false_iff_not, Bool.not_eq_true', Bool.not_eq_false', ne_eq, Decidable.not_not, Bool.not_eq_true, Bool.not_eq_false] at q9) | (dsimp only at q9) | skip
    obtain ⟨en, rfl, hen⟩ := rfn_of hf q9
    have hfv' := hfv
    simp only [T.isV] at hfv'
    obtain ⟨bn, on, capn, cn, rfl, hB, hbB, hcn, h9⟩ := hM.node hfv'.1 hfv'.2.1
    have hat : ∀ j, j < 9 → (Is (el L fi))[0 + j]? = some (I ((el L fi).getD j 0)) := fun j hj => by rw [Nat.zero_add]; exact at_Is (by omega)
    have h9' : (Is (el L fi)).length = 9 := by rw [List.length_map]; exact h9
    have hmo := hM.own
    have z_hB := hB.lt
    have z_hmo := hmo.lt
    refine At.drawE ((Bks.cons hmo.blk (Bks.cons o0_0.blk (Bks.cons hB.blk Bks.nil)))) [9] mixed rfl rfl ?_
    refine RegD.tpur (i := 0) rfl rfl rfl rfl (by kernel_rfl) (Pur.mv rfl) ?_
    refine RegD.tpur (i := 1) rfl rfl rfl rfl (by kernel_rfl) (Pur.nilc rfl) ?_
    refine RegD.tpur (i := 2) rfl rfl rfl rfl (by kernel_rfl) (Pur.fld _ fo60_0 rfl) ?_
    refine RegD.takeT (i := 3) rfl rfl rfl rfl (by kernel_rfl) (Bks.cons hmo.blk (Bks.cons o0_0.blk (Bks.cons hB.blk Bks.nil))) (fun H hS => Lod.ld sc22 rfl hS.hd rfl) ?_
    refine RegD.tpur (i := 4) rfl rfl rfl rfl (by kernel_rfl) (Pur.fld _ fo58_2 rfl) ?_
    refine RegD.takeT (i := 5) rfl rfl rfl rfl (by kernel_rfl) (Bks.cons hmo.blk (Bks.cons o0_0.blk (Bks.cons hB.blk Bks.nil))) (fun H hS => Lod.ld sc3 rfl hS.tl.hd (by first | rfl | (simp; done))) ?_
    refine RegD.tpur (i := 6) rfl rfl rfl rfl (by kernel_rfl) (Pur.idx _ es22 rfl rfl (by omega) (by omega)) ?_
    refine RegD.takeT (i := 7) rfl rfl rfl rfl (by kernel_rfl) (Bks.cons hmo.blk (Bks.cons o0_0.blk (Bks.cons hB.blk Bks.nil))) (fun H hS => Lod.ldn ag37 rfl hS.tl.tl.hd hcn h9') ?_
    refine RegD.one (i := 8) (by kernel_rfl) rfl rfl rfl rfl (Does.alloc zc37) ?_
    rintro _ H4_8 ⟨rfl, hn4_8⟩
    have z4_8 := hn4_8.size
    first | replace hL := hL.ext hn4_8.ext | skip
    replace hM := hM.ext hn4_8.ext
    replace o0_0 := o0_0.ext hn4_8.ext
    replace hB := hB.ext hn4_8.ext
    replace hmo := hmo.ext hn4_8.ext
    have o4_8 := hn4_8.own
    refine ⟨fun _ _ => (Bks.cons hmo.blk (Bks.cons o0_0.blk (Bks.cons hB.blk Bks.nil))), ?_⟩
    refine RegD.one0 (i := 9) (by kernel_rfl) rfl rfl rfl (Does.stn ag37 rfl rfl (ones_Is _) h9' o4_8 (by simp)) ?_
    rintro _ H4_9 hu4_9
    have z4_9 := hu4_9.size
    first | replace hL := hL.upw hu4_9 (by omega) | skip
    replace hM := hM.upw hu4_9 (by omega)
    replace o0_0 := o0_0.upw hu4_9 (by omega)
    replace hB := hB.upw hu4_9 (by omega)
    replace hmo := hmo.upw hu4_9 (by omega)
    replace o4_8 := hu4_9.own
    first | rw [over (by first | rfl | (simp; done))] at o4_8 | skip
    refine ⟨fun h => (by cases h), ?_⟩
    refine RegD.done (by kernel_rfl) ?_
    refine At.region rfl rfl ?_
    refine Reg.pur rfl rfl rfl rfl (Pur.fld _ fo37_0 rfl) ?_
    refine Reg.lod rfl rfl rfl rfl (Lod.ld sc3 rfl o4_8.blk (hat 0 (by decide))) ?_
    refine Reg.pur rfl rfl rfl rfl (Pur.eql rfl rfl) ?_
    refine Reg.nil ?_
    refine At.cond rfl rfl (fun q21 => ?_) (fun q21 => ?_)
    · first | (simp only [decide_eq_true_eq, decide_eq_false_iff_not, Bool.not_eq_true', Bool.not_eq_false', ne_eq, Decidable.not_not, Bool.not_eq_true, Bool.not_eq_false] at q21) | (dsimp only at q21) | skip
      refine At.drawE ((Bks.cons o4_8.blk (Bks.cons o0_0.blk (Bks.cons hmo.blk Bks.nil)))) [16] mixed rfl rfl ?_
      refine RegD.tpur (i := 0) rfl rfl rfl rfl (by kernel_rfl) (Pur.mv rfl) ?_
      refine RegD.tpur (i := 1) rfl rfl rfl rfl (by kernel_rfl) (Pur.fld _ fo37_1 rfl) ?_
      refine RegD.takeT (i := 2) rfl rfl rfl rfl (by kernel_rfl) (Bks.cons o4_8.blk (Bks.cons o0_0.blk (Bks.cons hmo.blk Bks.nil))) (fun H hS => Lod.ld sc3 rfl hS.hd (hat 1 (by decide))) ?_
      refine RegD.tpur (i := 3) rfl rfl rfl rfl (by kernel_rfl) (Pur.fld _ fo58_3 rfl) ?_
      refine RegD.takeT (i := 4) rfl rfl rfl rfl (by kernel_rfl) (Bks.cons o4_8.blk (Bks.cons o0_0.blk (Bks.cons hmo.blk Bks.nil))) (fun H hS => Lod.ld sc55 rfl hS.tl.hd (by first | rfl | (simp; done))) ?_
      refine RegD.tpur (i := 5) rfl rfl rfl rfl (by kernel_rfl) (Pur.fld _ fo37_5 rfl) ?_
      refine RegD.takeT (i := 6) rfl rfl rfl rfl (by kernel_rfl) (Bks.cons o4_8.blk (Bks.cons o0_0.blk (Bks.cons hmo.blk Bks.nil))) (fun H hS => Lod.ld sc3 rfl hS.hd (hat 5 (by decide))) ?_
      refine RegD.takeT (i := 7) rfl rfl rfl rfl (by kernel_rfl) (Bks.cons o4_8.blk (Bks.cons o0_0.blk (Bks.cons hmo.blk Bks.nil))) (fun H hS => Lod.ldn ag58 rfl hS.tl.hd (whole rfl) rfl) ?_
      refine RegD.tpur (i := 9) rfl rfl rfl rfl (by kernel_rfl) (Pur.fld _ fo37_6 rfl) ?_
      refine RegD.takeT (i := 10) rfl rfl rfl rfl (by kernel_rfl) (Bks.cons o4_8.blk (Bks.cons o0_0.blk (Bks.cons hmo.blk Bks.nil))) (fun H hS => Lod.ld sc3 rfl hS.hd (hat 6 (by decide))) ?_
      refine RegD.tpur (i := 11) rfl rfl rfl rfl (by kernel_rfl) (Pur.mv rfl) ?_
      refine RegD.tpur (i := 12) rfl rfl rfl rfl (by kernel_rfl) (Pur.nilc rfl) ?_
      refine RegD.tpur (i := 13) rfl rfl rfl rfl (by kernel_rfl) (Pur.fld _ fo60_5 rfl) ?_
      refine RegD.takeT (i := 14) rfl rfl rfl rfl (by kernel_rfl) (Bks.cons o4_8.blk (Bks.cons o0_0.blk (Bks.cons hmo.blk Bks.nil))) (fun H hS => Lod.ldn ag58 rfl hS.tl.tl.hd rfl rfl) ?_

      refine RegD.one (i := 8) (by kernel_rfl) rfl rfl rfl rfl (Does.call rfl (namedR_ok hM hf hen _)) ?_
      rintro v6 H6_8 ⟨G1, hle1, hen1, hM1, hE6_8⟩
      have z6_8 := hE6_8.lt
      first | replace hL := hL.ext hE6_8 | skip
      replace o0_0 := o0_0.ext hE6_8
      replace hB := hB.ext hE6_8
      replace hmo := hmo.ext hE6_8
      replace o4_8 := o4_8.ext hE6_8
      refine ⟨fun _ _ => (Bks.cons o4_8.blk (Bks.cons o0_0.blk (Bks.cons hmo.blk Bks.nil))), ?_⟩
      refine RegD.one (i := 15) (by kernel_rfl) rfl rfl rfl rfl (Does.call rfl (namedR_ok hM1 (rqV_mono hle1 _ _ hv) hen1 _)) ?_
      rintro v8 H6_15 ⟨G2, hle2, hen2, hM2, hE6_15⟩
      have z6_15 := hE6_15.lt
      first | replace hL := hL.ext hE6_15 | skip
      replace o0_0 := o0_0.ext hE6_15
      replace hB := hB.ext hE6_15
      replace hmo := hmo.ext hE6_15
      replace o4_8 := o4_8.ext hE6_15
      refine ⟨fun _ _ => (Bks.cons o4_8.blk (Bks.cons o0_0.blk (Bks.cons hmo.blk Bks.nil))), ?_⟩

      refine RegD.one (i := 16) (by kernel_rfl) rfl rfl rfl rfl (Does.call rfl (goesR_ok hM2 _ _ (rqE_cell hen2))) ?_
      rintro _ H6_16 ⟨hM3, hbut6_16⟩
      have z6_16 := hbut6_16.lt
      first | replace hL := hL.via hbut6_16 (by first | omega | (intro g; omega) | (intro g hg; omega) | (intro g hg h; omega)) | skip
      replace o0_0 := o0_0.via hbut6_16 (by first | omega | (intro g; omega) | (intro g hg; omega) | (intro g hg h; omega))
      replace hB := hB.via hbut6_16 (by first | omega | (intro g; omega) | (intro g hg; omega) | (intro g hg h; omega))
      replace o4_8 := o4_8.via hbut6_16 (by first | omega | (intro g; omega) | (intro g hg; omega) | (intro g hg h; omega))
      refine ⟨fun h => (by cases h), ?_⟩
      refine RegD.done (by kernel_rfl) ?_
      refine At.fall rfl Try.func55 rfl ?_
      rw [show callM L fr (.fn fi en) v = _ from if_pos q21]
      exact AfterR.ev hM3 hL hen2
    first | (simp only [decide_eq_true_eq, decide_eq_false_iff_not, Bool.not_eq_true', Bool.not_eq_false', ne_eq, Decidable.not_not, Bool.not_eq_true, Bool.not_eq_false] at q21) | (dsimp only at q21) | skip
    refine At.drawE ((Bks.cons o4_8.blk (Bks.cons o0_0.blk (Bks.cons hmo.blk Bks.nil)))) [12] mixed rfl rfl ?_
    refine RegD.tpur (i := 0) rfl rfl rfl rfl (by kernel_rfl) (Pur.mv rfl) ?_
    refine RegD.tpur (i := 1) rfl rfl rfl rfl (by kernel_rfl) (Pur.fld _ fo37_1 rfl) ?_
    refine RegD.takeT (i := 2) rfl rfl rfl rfl (by kernel_rfl) (Bks.cons o4_8.blk (Bks.cons o0_0.blk (Bks.cons hmo.blk Bks.nil))) (fun H hS => Lod.ld sc3 rfl hS.hd (hat 1 (by decide))) ?_
    refine RegD.tpur (i := 3) rfl rfl rfl rfl (by kernel_rfl) (Pur.fld _ fo58_3 rfl) ?_
    refine RegD.takeT (i := 4) rfl rfl rfl rfl (by kernel_rfl) (Bks.cons o4_8.blk (Bks.cons o0_0.blk (Bks.cons hmo.blk Bks.nil))) (fun H hS => Lod.ld sc55 rfl hS.tl.hd (by first | rfl | (simp; done))) ?_
    refine RegD.tpur (i := 5) rfl rfl rfl rfl (by kernel_rfl) (Pur.fld _ fo37_5 rfl) ?_
    refine RegD.takeT (i := 6) rfl rfl rfl rfl (by kernel_rfl) (Bks.cons o4_8.blk (Bks.cons o0_0.blk (Bks.cons hmo.blk Bks.nil))) (fun H hS => Lod.ld sc3 rfl hS.hd (hat 5 (by decide))) ?_
    refine RegD.tpur (i := 7) rfl rfl rfl rfl (by kernel_rfl) (Pur.mv rfl) ?_
    refine RegD.tpur (i := 8) rfl rfl rfl rfl (by kernel_rfl) (Pur.nilc rfl) ?_
    refine RegD.tpur (i := 9) rfl rfl rfl rfl (by kernel_rfl) (Pur.fld _ fo60_5 rfl) ?_
    refine RegD.takeT (i := 10) rfl rfl rfl rfl (by kernel_rfl) (Bks.cons o4_8.blk (Bks.cons o0_0.blk (Bks.cons hmo.blk Bks.nil))) (fun H hS => Lod.ldn ag58 rfl hS.tl.tl.hd rfl rfl) ?_

    refine RegD.one (i := 11) (by kernel_rfl) rfl rfl rfl rfl (Does.call rfl (namedR_ok hM hv hen _)) ?_
    rintro v8 H7_11 ⟨G2, hle2, hen2, hM2, hE7_11⟩
    have z7_11 := hE7_11.lt
    first | replace hL := hL.ext hE7_11 | skip
    replace o0_0 := o0_0.ext hE7_11
    replace hB := hB.ext hE7_11
    replace hmo := hmo.ext hE7_11
    replace o4_8 := o4_8.ext hE7_11
    refine ⟨fun _ _ => (Bks.cons o4_8.blk (Bks.cons o0_0.blk (Bks.cons hmo.blk Bks.nil))), ?_⟩

    refine RegD.one (i := 12) (by kernel_rfl) rfl rfl rfl rfl (Does.call rfl (goesR_ok hM2 _ _ (rqE_cell hen2))) ?_
    rintro _ H7_12 ⟨hM3, hbut7_12⟩
    have z7_12 := hbut7_12.lt
    first | replace hL := hL.via hbut7_12 (by first | omega | (intro g; omega) | (intro g hg; omega) | (intro g hg h; omega)) | skip
    replace o0_0 := o0_0.via hbut7_12 (by first | omega | (intro g; omega) | (intro g hg; omega) | (intro g hg h; omega))
    replace hB := hB.via hbut7_12 (by first | omega | (intro g; omega) | (intro g hg; omega) | (intro g hg h; omega))
    replace o4_8 := o4_8.via hbut7_12 (by first | omega | (intro g; omega) | (intro g hg; omega) | (intro g hg h; omega))
    refine ⟨fun h => (by cases h), ?_⟩
    refine RegD.done (by kernel_rfl) ?_
    refine At.fall rfl Try.func55 rfl ?_
    rw [show callM L fr (.fn fi en) v = _ from if_neg q21]
    exact AfterR.ev hM3 hL hen2
  first | (simp only [decide_eq_true_eq, decide_eq_false_iff_not, Bool.not_eq_true', Bool.not_eq_false', ne_eq, Decidable.not_not, Bool.not_eq_true, Bool.not_eq_false] at q9) | (dsimp only at q9) | skip
  refine At.region rfl rfl ?_
  refine Reg.pur rfl rfl rfl rfl (Pur.eql rfl rfl) ?_
  refine Reg.pur rfl rfl rfl rfl (Pur.asg rfl) ?_
  refine Reg.nil ?_
  refine At.cond rfl rfl (fun q52 => ?_) (fun q52 => ?_)
  · first | (simp only [decide_eq_true_eq, decide_eq_false_iff_not, Bool.not_eq_true', Bool.not_eq_false', ne_eq, Decidable.not_not, Bool.not_eq_true, Bool.not_eq_false] at q52) | (dsimp only at q52) | skip
    obtain ⟨en, one, b1, d1, rfl, hen, rfl, hG1, hone⟩ := rbnd_of hf q52
    have hfv' := hfv
    simp only [T.isV] at hfv'
    refine At.region rfl rfl ?_
    refine Reg.pur rfl rfl rfl rfl (Pur.mv rfl) ?_
    refine Reg.pur rfl rfl rfl rfl (Pur.fld _ fo58_2 rfl) ?_
    refine Reg.lod rfl rfl rfl rfl (Lod.ld sc3 rfl o0_0.blk rfl) ?_
    refine Reg.pur rfl rfl rfl rfl (Pur.fld _ fo58_3 rfl) ?_
    refine Reg.lod rfl rfl rfl rfl (Lod.ld sc55 rfl o0_0.blk rfl) ?_
    refine Reg.pur rfl rfl rfl rfl (Pur.bld (cs := [_, _, _, _, _, _, _]) pl58 zc58 rfl rfl ⟨rfl, rfl, rfl, rfl, rfl, rfl, rfl, rfl⟩) ?_

    refine Reg.op rfl rfl rfl rfl (Does.call rfl (pushR_ok hM (rqF_node (fk_zero.trans (by rw [hfv'.2.2.1]; rfl)) hen hfv'.1 hfv'.2.1) (by omega))) ?_
    rintro _ H9_6 ⟨A1, cap1, hM1, hbut9_6, hA1⟩
    have z9_6 := hbut9_6.lt
    first | replace hL := hL.via hbut9_6 (by first | omega | (intro g; omega) | (intro g hg; omega) | (intro g hg h; omega)) | skip
    replace o0_0 := o0_0.via hbut9_6 (by first | omega | (intro g; omega) | (intro g hg; omega) | (intro g hg h; omega))
    refine Reg.nil ?_
    have hB1 := hM1.fz.st _ _ hG1
    have zM1 := hM1.lt
    have hne1 := hM1.gne hG1
    have z_hB1 := hB1.lt
    refine At.drawE ((Bks.cons o0_0.blk (Bks.cons hB1.blk Bks.nil))) [7] mixed rfl rfl ?_
    refine RegD.tpur (i := 0) rfl rfl rfl rfl (by kernel_rfl) (Pur.mv rfl) ?_
    refine RegD.tpur (i := 1) rfl rfl rfl rfl (by kernel_rfl) (Pur.fld _ fo58_2 rfl) ?_
    refine RegD.takeT (i := 2) rfl rfl rfl rfl (by kernel_rfl) (Bks.cons o0_0.blk (Bks.cons hB1.blk Bks.nil)) (fun H hS => Lod.ld sc3 rfl hS.hd rfl) ?_
    refine RegD.tpur (i := 3) rfl rfl rfl rfl (by kernel_rfl) (Pur.fld _ fo58_5 rfl) ?_
    refine RegD.takeT (i := 4) rfl rfl rfl rfl (by kernel_rfl) (Bks.cons o0_0.blk (Bks.cons hB1.blk Bks.nil)) (fun H hS => Lod.ld sc56 rfl hS.hd rfl) ?_
    refine RegD.tpur (i := 5) rfl rfl rfl rfl (by kernel_rfl) (Pur.nilc rfl) ?_
    refine RegD.takeT (i := 6) rfl rfl rfl rfl (by kernel_rfl) (Bks.cons o0_0.blk (Bks.cons hB1.blk Bks.nil)) (fun H hS => Lod.ldn ag58 rfl hS.tl.hd (whole (rqV_seven hone)) (rqV_seven hone)) ?_
    refine RegD.one (i := 7) (by kernel_rfl) rfl rfl rfl rfl (Does.call rfl (pushR_ok hM1 (rqF_call hone hfv'.1 hfv'.2.1) (by simp only [List.length_cons]; omega))) ?_
    rintro _ H10_7 ⟨A2, cap2, hM2, hbut10_7, hA2⟩
    have z10_7 := hbut10_7.lt
    first | replace hL := hL.via hbut10_7 (by first | omega | (intro g; omega) | (intro g hg; omega) | (intro g hg h; omega)) | skip
    replace o0_0 := o0_0.via hbut10_7 (by first | omega | (intro g; omega) | (intro g hg; omega) | (intro g hg h; omega))
    replace hB1 := hB1.via hbut10_7 (by first | omega | (intro g; omega) | (intro g hg; omega) | (intro g hg h; omega))
    refine ⟨fun h => (by cases h), ?_⟩
    refine RegD.done (by kernel_rfl) ?_
    refine At.fall rfl Try.func55 rfl ?_
    exact AfterR.gv hM2 hL hv
  first | (simp only [decide_eq_true_eq, decide_eq_false_iff_not, Bool.not_eq_true', Bool.not_eq_false', ne_eq, Decidable.not_not, Bool.not_eq_true, Bool.not_eq_false] at q52) | (dsimp only at q52) | skip
  refine At.region rfl rfl ?_
  refine Reg.pur rfl rfl rfl rfl (Pur.eql rfl rfl) ?_
  refine Reg.pur rfl rfl rfl rfl (Pur.asg rfl) ?_
  refine Reg.nil ?_
  refine At.cond rfl rfl (fun q69 => ?_) (fun q69 => ?_)
  · first | (simp only [decide_eq_true_eq, decide_eq_false_iff_not, Bool.not_eq_true', Bool.not_eq_false', ne_eq, Decidable.not_not, Bool.not_eq_true, Bool.not_eq_false] at q69) | (dsimp only at q69) | skip
    obtain ⟨one, two, b1, d1, b2, d2, rfl, rfl, hG1, hone, rfl, hG2, htwo⟩ := rfwd_of hf q69
    have hn1 := hT.n1
    refine At.region rfl rfl ?_
    refine Reg.pur rfl rfl rfl rfl (Pur.mv rfl) ?_
    refine Reg.pur rfl rfl rfl rfl (Pur.fld _ fo58_5 rfl) ?_
    refine Reg.lod rfl rfl rfl rfl (Lod.ld sc56 rfl o0_0.blk rfl) ?_
    refine Reg.pur rfl rfl rfl rfl (Pur.nilc rfl) ?_
    refine Reg.lod rfl rfl rfl rfl (Lod.ldn ag58 rfl (hM.fz.st _ _ hG2) (whole (rqV_seven htwo)) (rqV_seven htwo)) ?_

    refine Reg.op rfl rfl rfl rfl (Does.call rfl (pushR_ok hM (rqF_call htwo (Int.le_refl 0) (by omega)) (by omega))) ?_
    rintro _ H12_5 ⟨A1, cap1, hM1, hbut12_5, hA1⟩
    have z12_5 := hbut12_5.lt
    first | replace hL := hL.via hbut12_5 (by first | omega | (intro g; omega) | (intro g hg; omega) | (intro g hg h; omega)) | skip
    replace o0_0 := o0_0.via hbut12_5 (by first | omega | (intro g; omega) | (intro g hg; omega) | (intro g hg h; omega))
    refine Reg.nil ?_
    have zM1 := hM1.lt
    refine At.region rfl rfl ?_
    refine Reg.pur rfl rfl rfl rfl (Pur.mv rfl) ?_
    refine Reg.pur rfl rfl rfl rfl (Pur.fld _ fo58_6 rfl) ?_
    refine Reg.lod rfl rfl rfl rfl (Lod.ld sc56 rfl o0_0.blk rfl) ?_
    refine Reg.pur rfl rfl rfl rfl (Pur.nilc rfl) ?_
    refine Reg.lod rfl rfl rfl rfl (Lod.ldn ag58 rfl (hM1.fz.st _ _ hG1) (whole (rqV_seven hone)) (rqV_seven hone)) ?_
    refine Reg.op rfl rfl rfl rfl (Does.call rfl (pushR_ok hM1 (rqF_call hone (Int.le_refl 0) (by omega)) (by simp only [List.length_cons]; omega))) ?_
    rintro _ H13_5 ⟨A2, cap2, hM2, hbut13_5, hA2⟩
    have z13_5 := hbut13_5.lt
    first | replace hL := hL.via hbut13_5 (by first | omega | (intro g; omega) | (intro g hg; omega) | (intro g hg h; omega)) | skip
    replace o0_0 := o0_0.via hbut13_5 (by first | omega | (intro g; omega) | (intro g hg; omega) | (intro g hg h; omega))
    refine Reg.nil ?_
    refine At.fall rfl Try.func55 rfl ?_
    exact AfterR.gv hM2 hL hv
  first | (simp only [decide_eq_true_eq, decide_eq_false_iff_not, Bool.not_eq_true', Bool.not_eq_false', ne_eq, Decidable.not_not, Bool.not_eq_true, Bool.not_eq_false] at q69) | (dsimp only at q69) | skip
  refine At.region rfl rfl ?_
  refine Reg.pur rfl rfl rfl rfl (Pur.mv rfl) ?_

  refine Reg.op rfl rfl rfl rfl (Does.call rfl (endR_ok hM 5 0)) ?_
  rintro _ H2_1 ⟨hM1, hbut2_1⟩
  have z2_1 := hbut2_1.lt
  first | replace hL := hL.via hbut2_1 (by first | omega | (intro g; omega) | (intro g hg; omega) | (intro g hg h; omega)) | skip
  replace o0_0 := o0_0.via hbut2_1 (by first | omega | (intro g; omega) | (intro g hg; omega) | (intro g hg h; omega))
  refine Reg.nil ?_
  refine At.fall rfl Try.func55 rfl ?_
  rw [callMR_no q9 q52 q69]
  exact AfterR.fin hM1 hL hl
theorem bindMR_no {x : List Int} {f : Fr} {v : T} (h5 : kd v ≠ 5) (h6 : kd v ≠ 6) : bindM x fr f v = .fin 5 0 := by
  cases v <;> simp only [kd] at h5 h6 <;> first | rfl | omega
theorem bindR_ok {H : Heap} (hT : Tm L) (hM : Qs L N m B G s H fr A cap false nd' pe vc false o1 o2) {i w : Int} {en hd v : T} {p : Value} {hc' : List Value} {x : List Int} (hx9 : x.length = 9)
    (hc7 : hc'.length = 7) (hc1 : ones hc' = true) (hen : rqE G en p) (hv : rqV G v vc) (hl : fr.length ≤ 4096) :
    Ret Try.prog 58 [ptr m 0, .agg (I w :: I i :: p :: hc').toArray, .agg (Is x).toArray] H (fun _ H' => AfterR L N m B (ob A) H (bindM x fr ⟨0, i, en, hd⟩ v) H') := by
  obtain ⟨vn, vi, vp, vq, vr, rfl⟩ := rqV_cells hv
  obtain ⟨a0, a1, a2, a3, a4, a5, a6, rfl⟩ := sevn hc7
  obtain ⟨Ap, rfl⟩ := rqE_one hen
  have hL := Chm.refl m (ob A) H
  have zM := hM.lt
  have hmo := hM.own
  have hat : ∀ j, j < 9 → (Is x)[0 + j]? = some (I (x.getD j 0)) := fun j hj => by rw [Nat.zero_add]; exact at_Is (by omega)
  refine Ret.of_at (N := 57) Try.call58 Try.func58 rfl rfl rfl ?_
  have hE := Ext.refl H
  have z_hL := hL.lt
  have z_hM := hM.lt
  have z_hmo := hmo.lt
  refine At.region rfl rfl ?_
  refine Reg.op rfl rfl rfl rfl (Does.box rfl rfl) ?_
  rintro _ H0_0 ⟨rfl, hn0_0⟩
  have z0_0 := hn0_0.size
  first | replace hL := hL.ext hn0_0.ext | skip
  replace hM := hM.ext hn0_0.ext
  replace hmo := hmo.ext hn0_0.ext
  have o0_0 := hn0_0.own
  refine Reg.op rfl rfl rfl rfl (Does.box rfl rfl) ?_
  rintro _ H0_1 ⟨rfl, hn0_1⟩
  have z0_1 := hn0_1.size
  first | replace hL := hL.ext hn0_1.ext | skip
  replace hM := hM.ext hn0_1.ext
  replace hmo := hmo.ext hn0_1.ext
  replace o0_0 := o0_0.ext hn0_1.ext
  have o0_1 := hn0_1.own
  refine Reg.nil ?_
  refine At.region rfl rfl ?_
  refine Reg.pur rfl rfl rfl rfl (Pur.mv rfl) ?_
  refine Reg.pur rfl rfl rfl rfl (Pur.nilc rfl) ?_
  refine Reg.pur rfl rfl rfl rfl (Pur.fld _ fo60_5 rfl) ?_
  refine Reg.pur rfl rfl rfl rfl (Pur.fld _ fo58_0 rfl) ?_
  refine Reg.lod rfl rfl rfl rfl (Lod.ld sc3 rfl hmo.blk rfl) ?_
  refine Reg.nil ?_
  refine At.region rfl rfl ?_
  refine Reg.pur rfl rfl rfl rfl (Pur.eql rfl rfl) ?_
  refine Reg.pur rfl rfl rfl rfl (Pur.asg rfl) ?_
  refine Reg.nil ?_
  refine At.cond rfl rfl (fun q13 => ?_) (fun q13 => ?_)
  · first | (simp only [decide_eq_true_eq, decide_eq_false_iff_not, Bool.not_eq_true', Bool.not_eq_false', ne_eq, Decidable.not_not, Bool.not_eq_true, Bool.not_eq_false] at q13) | (dsimp only at q13) | skip
    obtain ⟨one, b1, d1, rfl, rfl, hG1, hone⟩ := rret_of hv q13
    have hB1 := hM.fz.st _ _ hG1
    have hne1 := hM.gne hG1
    have z_hB1 := hB1.lt
    refine At.drawE ((Bks.cons o0_1.blk (Bks.cons o0_0.blk (Bks.cons hmo.blk (Bks.cons hB1.blk Bks.nil))))) [15] mixed rfl rfl ?_
    refine RegD.tpur (i := 0) rfl rfl rfl rfl (by kernel_rfl) (Pur.mv rfl) ?_
    refine RegD.tpur (i := 1) rfl rfl rfl rfl (by kernel_rfl) (Pur.fld _ fo37_2 rfl) ?_
    refine RegD.takeT (i := 2) rfl rfl rfl rfl (by kernel_rfl) (Bks.cons o0_1.blk (Bks.cons o0_0.blk (Bks.cons hmo.blk (Bks.cons hB1.blk Bks.nil)))) (fun H hS => Lod.ld sc3 rfl hS.hd (hat 2 (by decide))) ?_
    refine RegD.tpur (i := 3) rfl rfl rfl rfl (by kernel_rfl) (Pur.fld _ fo76_2 rfl) ?_
    refine RegD.takeT (i := 4) rfl rfl rfl rfl (by kernel_rfl) (Bks.cons o0_1.blk (Bks.cons o0_0.blk (Bks.cons hmo.blk (Bks.cons hB1.blk Bks.nil)))) (fun H hS => Lod.ld sc55 rfl hS.tl.hd (by first | rfl | (simp; done))) ?_
    refine RegD.tpur (i := 5) rfl rfl rfl rfl (by kernel_rfl) (Pur.fld _ fo37_5 rfl) ?_
    refine RegD.takeT (i := 6) rfl rfl rfl rfl (by kernel_rfl) (Bks.cons o0_1.blk (Bks.cons o0_0.blk (Bks.cons hmo.blk (Bks.cons hB1.blk Bks.nil)))) (fun H hS => Lod.ld sc3 rfl hS.hd (hat 5 (by decide))) ?_
    refine RegD.tpur (i := 7) rfl rfl rfl rfl (by kernel_rfl) (Pur.mv rfl) ?_
    refine RegD.tpur (i := 8) rfl rfl rfl rfl (by kernel_rfl) (Pur.nilc rfl) ?_
    refine RegD.tpur (i := 9) rfl rfl rfl rfl (by kernel_rfl) (Pur.fld _ fo60_5 rfl) ?_
    refine RegD.tpur (i := 10) rfl rfl rfl rfl (by kernel_rfl) (Pur.fld _ fo58_5 rfl) ?_
    refine RegD.takeT (i := 11) rfl rfl rfl rfl (by kernel_rfl) (Bks.cons o0_1.blk (Bks.cons o0_0.blk (Bks.cons hmo.blk (Bks.cons hB1.blk Bks.nil)))) (fun H hS => Lod.ld sc56 rfl hS.tl.tl.hd rfl) ?_
    refine RegD.tpur (i := 12) rfl rfl rfl rfl (by kernel_rfl) (Pur.nilc rfl) ?_
    refine RegD.takeT (i := 13) rfl rfl rfl rfl (by kernel_rfl) (Bks.cons o0_1.blk (Bks.cons o0_0.blk (Bks.cons hmo.blk (Bks.cons hB1.blk Bks.nil)))) (fun H hS => Lod.ldn ag58 rfl hS.tl.tl.tl.hd (whole (rqV_seven hone)) (rqV_seven hone)) ?_

    refine RegD.one (i := 14) (by kernel_rfl) rfl rfl rfl rfl (Does.call rfl (namedR_ok hM hone hen _)) ?_
    rintro v8 H4_14 ⟨G2, hle2, hen2, hM2, hE4_14⟩
    have z4_14 := hE4_14.lt
    first | replace hL := hL.ext hE4_14 | skip
    replace hmo := hmo.ext hE4_14
    replace o0_0 := o0_0.ext hE4_14
    replace o0_1 := o0_1.ext hE4_14
    replace hB1 := hB1.ext hE4_14
    refine ⟨fun _ _ => (Bks.cons o0_1.blk (Bks.cons o0_0.blk (Bks.cons hmo.blk (Bks.cons hB1.blk Bks.nil)))), ?_⟩

    refine RegD.one (i := 15) (by kernel_rfl) rfl rfl rfl rfl (Does.call rfl (goesR_ok hM2 _ _ (rqE_cell hen2))) ?_
    rintro _ H4_15 ⟨hM3, hbut4_15⟩
    have z4_15 := hbut4_15.lt
    first | replace hL := hL.via hbut4_15 (by first | omega | (intro g; omega) | (intro g hg; omega) | (intro g hg h; omega)) | skip
    replace o0_0 := o0_0.via hbut4_15 (by first | omega | (intro g; omega) | (intro g hg; omega) | (intro g hg h; omega))
    replace o0_1 := o0_1.via hbut4_15 (by first | omega | (intro g; omega) | (intro g hg; omega) | (intro g hg h; omega))
    replace hB1 := hB1.via hbut4_15 (by first | omega | (intro g; omega) | (intro g hg; omega) | (intro g hg h; omega))
    refine ⟨fun h => (by cases h), ?_⟩
    refine RegD.done (by kernel_rfl) ?_
    refine At.fall rfl Try.func58 rfl ?_
    exact AfterR.ev hM3 hL hen2
  first | (simp only [decide_eq_true_eq, decide_eq_false_iff_not, Bool.not_eq_true', Bool.not_eq_false', ne_eq, Decidable.not_not, Bool.not_eq_true, Bool.not_eq_false] at q13) | (dsimp only at q13) | skip
  refine At.region rfl rfl ?_
  refine Reg.pur rfl rfl rfl rfl (Pur.eql rfl rfl) ?_
  refine Reg.pur rfl rfl rfl rfl (Pur.asg rfl) ?_
  refine Reg.nil ?_
  refine At.cond rfl rfl (fun q31 => ?_) (fun q31 => ?_)
  · first | (simp only [decide_eq_true_eq, decide_eq_false_iff_not, Bool.not_eq_true', Bool.not_eq_false', ne_eq, Decidable.not_not, Bool.not_eq_true, Bool.not_eq_false] at q31) | (dsimp only at q31) | skip
    obtain ⟨one, two, b1, d1, b2, d2, rfl, rfl, hG1, hone, rfl, hG2, htwo⟩ := rop_of hv q31
    refine At.drawE ((Bks.cons o0_0.blk (Bks.cons hmo.blk Bks.nil))) [23] mixed rfl rfl ?_
    refine RegD.tpur (i := 0) rfl rfl rfl rfl (by kernel_rfl) (Pur.mv rfl) ?_
    refine RegD.tpur (i := 1) rfl rfl rfl rfl (by kernel_rfl) (Pur.mv rfl) ?_
    refine RegD.tpur (i := 2) rfl rfl rfl rfl (by kernel_rfl) (Pur.nilc rfl) ?_
    refine RegD.tpur (i := 3) rfl rfl rfl rfl (by kernel_rfl) (Pur.fld _ fo60_5 rfl) ?_
    refine RegD.tpur (i := 4) rfl rfl rfl rfl (by kernel_rfl) (Pur.fld _ fo58_1 rfl) ?_
    refine RegD.takeT (i := 5) rfl rfl rfl rfl (by kernel_rfl) (Bks.cons o0_0.blk (Bks.cons hmo.blk Bks.nil)) (fun H hS => Lod.ld sc3 rfl hS.tl.hd rfl) ?_
    refine RegD.tpur (i := 6) rfl rfl rfl rfl (by kernel_rfl) (Pur.mv rfl) ?_
    refine RegD.tpur (i := 7) rfl rfl rfl rfl (by kernel_rfl) (Pur.nilc rfl) ?_
    refine RegD.tpur (i := 8) rfl rfl rfl rfl (by kernel_rfl) (Pur.fld _ fo60_5 rfl) ?_
    refine RegD.tpur (i := 9) rfl rfl rfl rfl (by kernel_rfl) (Pur.fld _ fo58_5 rfl) ?_
    refine RegD.takeT (i := 10) rfl rfl rfl rfl (by kernel_rfl) (Bks.cons o0_0.blk (Bks.cons hmo.blk Bks.nil)) (fun H hS => Lod.ld sc56 rfl hS.tl.hd rfl) ?_
    refine RegD.tpur (i := 11) rfl rfl rfl rfl (by kernel_rfl) (Pur.fld _ fo76_1 rfl) ?_
    refine RegD.takeT (i := 12) rfl rfl rfl rfl (by kernel_rfl) (Bks.cons o0_0.blk (Bks.cons hmo.blk Bks.nil)) (fun H hS => Lod.ld sc3 rfl hS.hd (by first | rfl | (simp; done))) ?_
    refine RegD.tpur (i := 13) rfl rfl rfl rfl (by kernel_rfl) (Pur.fld _ fo76_2 rfl) ?_
    refine RegD.takeT (i := 14) rfl rfl rfl rfl (by kernel_rfl) (Bks.cons o0_0.blk (Bks.cons hmo.blk Bks.nil)) (fun H hS => Lod.ld sc55 rfl hS.hd (by first | rfl | (simp; done))) ?_
    refine RegD.tpur (i := 15) rfl rfl rfl rfl (by kernel_rfl) (Pur.mv rfl) ?_
    refine RegD.tpur (i := 16) rfl rfl rfl rfl (by kernel_rfl) (Pur.nilc rfl) ?_
    refine RegD.tpur (i := 17) rfl rfl rfl rfl (by kernel_rfl) (Pur.fld _ fo60_5 rfl) ?_
    refine RegD.tpur (i := 18) rfl rfl rfl rfl (by kernel_rfl) (Pur.fld _ fo58_6 rfl) ?_
    refine RegD.takeT (i := 19) rfl rfl rfl rfl (by kernel_rfl) (Bks.cons o0_0.blk (Bks.cons hmo.blk Bks.nil)) (fun H hS => Lod.ld sc56 rfl hS.tl.hd rfl) ?_
    refine RegD.tpur (i := 20) rfl rfl rfl rfl (by kernel_rfl) (Pur.bld (cs := [_, _, _, _, _, _, _]) pl58 zc58 rfl rfl ⟨rfl, rfl, rfl, rfl, rfl, rfl, rfl, rfl⟩) ?_
    refine RegD.one (i := 21) (by kernel_rfl) rfl rfl rfl rfl (Does.box rfl rfl) ?_
    rintro _ H6_21 ⟨rfl, hn6_21⟩
    have z6_21 := hn6_21.size
    first | replace hL := hL.ext hn6_21.ext | skip
    replace hM := hM.ext hn6_21.ext
    replace hmo := hmo.ext hn6_21.ext
    replace o0_0 := o0_0.ext hn6_21.ext
    replace o0_1 := o0_1.ext hn6_21.ext
    have o6_21 := hn6_21.own
    refine ⟨fun _ _ => (Bks.cons o0_0.blk (Bks.cons hmo.blk Bks.nil)), ?_⟩
    refine RegD.tpur (i := 22) rfl rfl rfl rfl (by kernel_rfl) (Pur.bld (cs := [_, _, _, _, _, _, _]) pl58 zc58 rfl rfl ⟨rfl, rfl, rfl, rfl, rfl, rfl, rfl, rfl⟩) ?_
    have hMb := hM.add o6_21.blk (by omega)
    have hle := gset_le (b := H0_1.size) (c := [I 7, I 0, I i, .pointer Ap, nils, ptr b2 0, nilp]) hM.fz (by omega)

    refine RegD.one (i := 23) (by kernel_rfl) rfl rfl rfl rfl (Does.call rfl (givesR_ok hMb (vc' := [I 6, I vn, I 0, nilp, nils, ptr b1 0, ptr H0_1.size 0]) rfl rfl)) ?_
    rintro _ H6_23 ⟨hM3, hbut6_23⟩
    have z6_23 := hbut6_23.lt
    first | replace hL := hL.via hbut6_23 (by first | omega | (intro g; omega) | (intro g hg; omega) | (intro g hg h; omega)) | skip
    replace o0_0 := o0_0.via hbut6_23 (by first | omega | (intro g; omega) | (intro g hg; omega) | (intro g hg h; omega))
    replace o0_1 := o0_1.via hbut6_23 (by first | omega | (intro g; omega) | (intro g hg; omega) | (intro g hg h; omega))
    replace o6_21 := o6_21.via hbut6_23 (by first | omega | (intro g; omega) | (intro g hg; omega) | (intro g hg h; omega))
    refine ⟨fun h => (by cases h), ?_⟩
    refine RegD.done (by kernel_rfl) ?_
    refine At.fall rfl Try.func58 rfl ?_
    refine AfterR.gv hM3 hL ?_
    simp only [rqV]
    exact ⟨b1, d1, _, _, rfl, hle _ _ hG1, rqV_mono hle _ _ hone, gset_at _ _ _, _, b2, d2, rfl, rqE_mono hle _ _ hen, hle _ _ hG2, rqV_mono hle _ _ htwo⟩
  first | (simp only [decide_eq_true_eq, decide_eq_false_iff_not, Bool.not_eq_true', Bool.not_eq_false', ne_eq, Decidable.not_not, Bool.not_eq_true, Bool.not_eq_false] at q31) | (dsimp only at q31) | skip
  refine At.region rfl rfl ?_
  refine Reg.pur rfl rfl rfl rfl (Pur.mv rfl) ?_

  refine Reg.op rfl rfl rfl rfl (Does.call rfl (endR_ok hM 5 0)) ?_
  rintro _ H2_1 ⟨hM1, hbut2_1⟩
  have z2_1 := hbut2_1.lt
  first | replace hL := hL.via hbut2_1 (by first | omega | (intro g; omega) | (intro g hg; omega) | (intro g hg h; omega)) | skip
  replace o0_0 := o0_0.via hbut2_1 (by first | omega | (intro g; omega) | (intro g hg; omega) | (intro g hg h; omega))
  replace o0_1 := o0_1.via hbut2_1 (by first | omega | (intro g; omega) | (intro g hg; omega) | (intro g hg h; omega))
  refine Reg.nil ?_
  refine At.fall rfl Try.func58 rfl ?_
  rw [bindMR_no q13 q31]
  exact AfterR.fin hM1 hL hl
end Go.Proofs.Ytjhkmebmbopfoaa
