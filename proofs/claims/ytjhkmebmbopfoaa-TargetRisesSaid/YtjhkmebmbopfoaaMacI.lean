/-
  Chapter 21: a function that is given a value; a frame that is given a computation.
-/
import Derived.Test.YtjhkmebmbopfoaaMacH
namespace Go.Proofs.Ytjhkmebmbopfoaa
set_option linter.unusedSimpArgs false
set_option linter.unusedVariables false
set_option maxRecDepth 8000
set_option maxHeartbeats 1000000
open Go Go.Fx Go.Proofs
namespace FactsMacI
theorem ag68 : ag Try.prog 68 = some 6 := by kernel_rfl
theorem es22 : esz Try.prog 22 = some 9 := by kernel_rfl
theorem fo37_0 : foff Try.prog 37 0 = some 0 := by kernel_rfl
theorem fo37_1 : foff Try.prog 37 1 = some 1 := by kernel_rfl
theorem fo37_2 : foff Try.prog 37 2 = some 2 := by kernel_rfl
theorem fo37_5 : foff Try.prog 37 5 = some 5 := by kernel_rfl
theorem fo37_6 : foff Try.prog 37 6 = some 6 := by kernel_rfl
theorem fo51_0 : foff Try.prog 51 0 = some 0 := by kernel_rfl
theorem fo68_0 : foff Try.prog 68 0 = some 0 := by kernel_rfl
theorem fo68_1 : foff Try.prog 68 1 = some 1 := by kernel_rfl
theorem fo68_2 : foff Try.prog 68 2 = some 2 := by kernel_rfl
theorem fo68_3 : foff Try.prog 68 3 = some 3 := by kernel_rfl
theorem fo68_4 : foff Try.prog 68 4 = some 4 := by kernel_rfl
theorem fo68_5 : foff Try.prog 68 5 = some 5 := by kernel_rfl
theorem fo71_1 : foff Try.prog 71 1 = some 1 := by kernel_rfl
theorem fo71_2 : foff Try.prog 71 2 = some 2 := by kernel_rfl
theorem isPt48 : isPt Try.prog 48 = true := by kernel_rfl
theorem mixed : Try.prog.follows .mixedOrders = true := by kernel_rfl
theorem pl68 : places Try.prog 68 = some [(0, 1), (1, 1), (2, 1), (3, 1), (4, 1), (5, 1)] := by kernel_rfl
theorem pl71 : places Try.prog 71 = some [(0, 1), (1, 1), (2, 1), (3, 6)] := by kernel_rfl
theorem sc22 : sc Try.prog 22 = true := by kernel_rfl
theorem sc3 : sc Try.prog 3 = true := by kernel_rfl
theorem sc47 : sc Try.prog 47 = true := by kernel_rfl
theorem sc48 : sc Try.prog 48 = true := by kernel_rfl
theorem sc66 : sc Try.prog 66 = true := by kernel_rfl
theorem zc68 : zc Try.prog 68 = some [.int .i64 0, .int .i64 0, .int .i64 0, .pointer none, .pointer none, .pointer none] := by kernel_rfl
theorem zc71 : zc Try.prog 71 = some [.int .i64 0, .int .i64 0, .pointer none, .int .i64 0, .int .i64 0, .int .i64 0, .pointer none, .pointer none, .pointer none] := by kernel_rfl
end FactsMacI
open FactsMacI

/-- a value's kind -/
def kp : T → Int
  | .num _ => 0 | .tru _ => 1 | .fn _ _ => 2 | .bnd _ _ _ => 3 | .fwd _ _ => 4 | .ret _ => 5 | .op _ _ _ => 6 | _ => 7
theorem repV_cells {G : Gh} {t : T} {c : List Value} (h : repV G t c) : ∃ n i p q r, c = [I (kp t), I n, I i, .pointer p, .pointer q, .pointer r] := by
  cases t <;> simp only [repV] at h
  case num n => exact ⟨_, _, _, _, _, h⟩
  case tru n => exact ⟨_, _, _, _, _, h⟩
  case fn node env => obtain ⟨p, rfl, hp⟩ := h; obtain ⟨A, rfl⟩ := repE_one hp; exact ⟨_, _, _, _, _, rfl⟩
  case bnd node env one => obtain ⟨p, b, d, rfl, hp, _⟩ := h; obtain ⟨A, rfl⟩ := repE_one hp; exact ⟨_, _, _, _, _, rfl⟩
  case fwd one two => obtain ⟨b, d, b', d', rfl, _⟩ := h; exact ⟨_, _, _, _, _, rfl⟩
  case ret one => obtain ⟨b, d, rfl, _⟩ := h; exact ⟨_, _, _, _, _, rfl⟩
  case op n one two => obtain ⟨b, d, b', d', rfl, _⟩ := h; exact ⟨_, _, _, _, _, rfl⟩
section kinds
variable {G : Gh} {t : T} {k n i : Int} {p q r : Option Addr}
theorem num_of (h : repV G t [I k, I n, I i, .pointer p, .pointer q, .pointer r]) (hk : kp t = 0) : t = .num n := by
  cases t <;> simp only [kp] at hk <;> (try omega)
  simp only [repV, List.cons.injEq, Value.int.injEq, true_and] at h
  rw [h.2.1]
theorem tru_of (h : repV G t [I k, I n, I i, .pointer p, .pointer q, .pointer r]) (hk : kp t = 1) : t = .tru n := by
  cases t <;> simp only [kp] at hk <;> (try omega)
  simp only [repV, List.cons.injEq, Value.int.injEq, true_and] at h
  rw [h.2.1]
theorem fn_of (h : repV G t [I k, I n, I i, .pointer p, .pointer q, .pointer r]) (hk : kp t = 2) : ∃ en, t = .fn i en ∧ repE G en (.pointer p) := by
  cases t <;> simp only [kp] at hk <;> (try omega)
  simp only [repV] at h
  obtain ⟨P, h, hp⟩ := h
  simp only [List.cons.injEq, Value.int.injEq, true_and] at h
  obtain ⟨_, _, rfl, rfl, _⟩ := h
  exact ⟨_, rfl, hp⟩
theorem bnd_of (h : repV G t [I k, I n, I i, .pointer p, .pointer q, .pointer r]) (hk : kp t = 3) : ∃ en one b d, t = .bnd i en one ∧ repE G en (.pointer p) ∧ q = some ⟨b, 0, none⟩ ∧ G b = some d ∧ repV G one (d.take 6) := by
  cases t <;> simp only [kp] at hk <;> (try omega)
  simp only [repV] at h
  obtain ⟨P, b, d, h, hp, h1, h2⟩ := h
  simp only [List.cons.injEq, Value.int.injEq, Value.pointer.injEq, true_and] at h
  obtain ⟨_, _, rfl, rfl, rfl, _⟩ := h
  exact ⟨_, _, b, d, rfl, hp, rfl, h1, h2⟩
theorem fwd_of (h : repV G t [I k, I n, I i, .pointer p, .pointer q, .pointer r]) (hk : kp t = 4) : ∃ one two b d b' d', t = .fwd one two ∧ q = some ⟨b, 0, none⟩ ∧ G b = some d ∧ repV G one (d.take 6) ∧ r = some ⟨b', 0, none⟩ ∧ G b' = some d' ∧ repV G two (d'.take 6) := by
  cases t <;> simp only [kp] at hk <;> (try omega)
  simp only [repV] at h
  obtain ⟨b, d, b', d', h, h1, h2, h3, h4⟩ := h
  simp only [List.cons.injEq, Value.int.injEq, Value.pointer.injEq, true_and] at h
  obtain ⟨_, _, _, _, rfl, rfl, _⟩ := h
  exact ⟨_, _, b, d, b', d', rfl, rfl, h1, h2, rfl, h3, h4⟩
theorem ret_of (h : repV G t [I k, I n, I i, .pointer p, .pointer q, .pointer r]) (hk : kp t = 5) : ∃ one b d, t = .ret one ∧ q = some ⟨b, 0, none⟩ ∧ G b = some d ∧ repV G one (d.take 6) := by
  cases t <;> simp only [kp] at hk <;> (try omega)
  simp only [repV] at h
  obtain ⟨b, d, h, h1, h2⟩ := h
  simp only [List.cons.injEq, Value.int.injEq, Value.pointer.injEq, true_and] at h
  obtain ⟨_, _, _, _, rfl, _⟩ := h
  exact ⟨_, b, d, rfl, rfl, h1, h2⟩
theorem op_of (h : repV G t [I k, I n, I i, .pointer p, .pointer q, .pointer r]) (hk : kp t = 6) : ∃ one two b d b' d', t = .op n one two ∧ q = some ⟨b, 0, none⟩ ∧ G b = some d ∧ repV G one (d.take 6) ∧ r = some ⟨b', 0, none⟩ ∧ G b' = some d' ∧ repV G two (d'.take 6) := by
  cases t <;> simp only [kp] at hk <;> (try omega)
  simp only [repV] at h
  obtain ⟨b, d, b', d', h, h1, h2, h3, h4⟩ := h
  simp only [List.cons.injEq, Value.int.injEq, Value.pointer.injEq, true_and] at h
  obtain ⟨_, rfl, _, _, rfl, rfl, _⟩ := h
  exact ⟨_, _, b, d, b', d', rfl, rfl, h1, h2, rfl, h3, h4⟩
end kinds
/-- the machine behind what comes -/
def Shape (G : Gh) (H : Heap) (fr : List Fr) (nd : Int) (pe pv pd : Value) : Ou → Prop
  | .go (.ev fr' node env) => fr = fr' ∧ nd = node ∧ repE G env pe ∧ pv = nilp ∧ pd = nilp
  | .go (.gv fr' v) => fr = fr' ∧ repP G v pv ∧ pd = nilp
  | .fin k n => fr.length ≤ 4096 ∧ ∃ b, pd = ptr b 0 ∧ Blk H b [I k, I n]
def After (L : List (List Int)) (N : Value) (m B : Nat) (a : Int) (H0 : Heap) (ou : Ou) (H : Heap) : Prop :=
  But (fun g => g = m ∨ (g : Int) = a) H0 H ∧ ∃ G fr A cap nd pe pv pd, Ms L N m B G H.size H fr A cap nd pe pv pd ∧ Shape G H fr nd pe pv pd ou
section aft
variable {L : List (List Int)} {N : Value} {m B : Nat} {G : Gh} {s : Nat} {a : Int} {H0 H : Heap} {fr : List Fr} {A : Option Addr} {cap : Nat} {nd : Int} {pe pv pd : Value}
theorem After.ev {node : Int} {p : Value} {env : T} (hM : Ms L N m B G s H fr A cap node p nilp nilp) (hL : Chm m a H0 H) (hp : repE G env p) : After L N m B a H0 (.go (.ev fr node env)) H :=
  ⟨hL.but, G, fr, A, cap, node, p, nilp, nilp, hM.re hM.fz.hs (Nat.le_refl _), rfl, rfl, hp, rfl, rfl⟩
theorem After.gv {v : T} (hM : Ms L N m B G s H fr A cap nd pe pv nilp) (hL : Chm m a H0 H) (hp : repP G v pv) : After L N m B a H0 (.go (.gv fr v)) H :=
  ⟨hL.but, G, fr, A, cap, nd, pe, pv, nilp, hM.re hM.fz.hs (Nat.le_refl _), rfl, hp, rfl⟩
theorem After.fin {b : Nat} {k n : Int} (hM : Ms L N m B G s H fr A cap nd pe pv (ptr b 0)) (hL : Chm m a H0 H) (hl : fr.length ≤ 4096) (hb : Blk H b [I k, I n]) : After L N m B a H0 (.fin k n) H :=
  ⟨hL.but, G, fr, A, cap, nd, pe, pv, ptr b 0, hM.re hM.fz.hs (Nat.le_refl _), hl, b, rfl, hb⟩
end aft
theorem repE_cell {G : Gh} {en : T} {p : Value} (h : repE G en p) : p.oneCell' = true := by
  obtain ⟨A, rfl⟩ := repE_one h; rfl
theorem repF_call {G : Gh} {one : T} {c : List Value} (h : repV G one c) : repF G ⟨2, 0, .nil, one⟩ (I 2 :: I 0 :: nilp :: c) :=
  ⟨nilp, c, rfl, repV_six h, repV_ones h, by simp only [repE], fun _ => h⟩
theorem repF_node {G : Gh} {en : T} {p : Value} {i : Int} (h : repE G en p) : repF G ⟨0, i, en, .nil⟩ [I 0, I i, p, I 0, I 0, I 0, nilp, nilp, nilp] :=
  ⟨p, [I 0, I 0, I 0, nilp, nilp, nilp], rfl, rfl, rfl, h, fun h => (h rfl).elim⟩
variable {L : List (List Int)} {N : Value} {m B : Nat} {G : Gh} {s : Nat} {fr : List Fr} {A : Option Addr} {cap : Nat} {nd : Int} {pe pv pd : Value}
theorem callM_no {f v : T} (h2 : kp f ≠ 2) (h3 : kp f ≠ 3) (h4 : kp f ≠ 4) : callM L fr f v = .fin 5 0 := by
  cases f <;> simp only [kp] at h2 h3 h4 <;> first | rfl | omega
theorem callP_ok {H : Heap} (hT : Tm L) (hM : Ms L N m B G s H fr A cap nd pe pv nilp) {f v : T} {fc vc : List Value} (hf : repV G f fc) (hv : repV G v vc) (hfv : f.isV L) (hl : fr.length ≤ 4096) :
    Ret Try.prog 30 [ptr m 0, .agg fc.toArray, .agg vc.toArray] H (fun _ H' => After L N m B (ob A) H (callM L fr f v) H') := by
  obtain ⟨fn, fi, fp, fq, fz, rfl⟩ := repV_cells hf
  obtain ⟨vn, vi, vp, vq, vr, rfl⟩ := repV_cells hv
  have hL := Chm.refl m (ob A) H
  have zM := hM.lt
  refine Ret.of_at (N := 82) Try.call30 Try.func30 rfl rfl rfl ?_
  have hE := Ext.refl H
  have z_hL := hL.lt
  have z_hM := hM.lt
  refine At.region rfl rfl ?_
  refine Reg.op rfl rfl rfl rfl (Does.box rfl rfl) ?_
  rintro _ H0_0 ⟨rfl, hn0_0⟩
  have z0_0 := hn0_0.size
  first | replace hL := hL.ext hn0_0.ext | skip
  replace hM := hM.ext hn0_0.ext
  have o0_0 := hn0_0.own
  refine Reg.op rfl rfl rfl rfl (Does.box rfl rfl) ?_
  rintro _ H0_1 ⟨rfl, hn0_1⟩
  have z0_1 := hn0_1.size
  first | replace hL := hL.ext hn0_1.ext | skip
  replace hM := hM.ext hn0_1.ext
  replace o0_0 := o0_0.ext hn0_1.ext
  have o0_1 := hn0_1.own
  refine Reg.nil ?_
  refine At.region rfl rfl ?_
  refine Reg.pur rfl rfl rfl rfl (Pur.fld _ fo68_0 rfl) ?_
  refine Reg.lod rfl rfl rfl rfl (Lod.ld sc66 rfl o0_0.blk rfl) ?_
  refine Reg.nil ?_
  refine At.region rfl rfl ?_
  refine Reg.pur rfl rfl rfl rfl (Pur.eql rfl rfl) ?_
  refine Reg.pur rfl rfl rfl rfl (Pur.asg rfl) ?_
  refine Reg.nil ?_
  refine At.cond rfl rfl (fun q13 => ?_) (fun q13 => ?_)
  · first | (simp only [decide_eq_true_eq, decide_eq_false_iff_not, Bool.not_eq_true', Bool.not_eq_false', ne_eq, Decidable.not_not, Bool.not_eq_true, Bool.not_eq_false] at q13) | (dsimp only at q13) | skip
    obtain ⟨en, rfl, hen⟩ := fn_of hf q13
    have hfv' := hfv
    simp only [T.isV] at hfv'
    obtain ⟨bn, on, capn, cn, rfl, hB, hbB, hc⟩ := hM.node hfv'.1 hfv'.2.1
    have z_hB := hB.lt
    refine At.drawE ((Bks.cons hM.own.blk (Bks.cons o0_0.blk Bks.nil))) [] mixed rfl rfl ?_
    refine RegD.tpur (i := 0) rfl rfl rfl rfl (by kernel_rfl) (Pur.mv rfl) ?_
    refine RegD.tpur (i := 1) rfl rfl rfl rfl (by kernel_rfl) (Pur.nilc rfl) ?_
    refine RegD.tpur (i := 2) rfl rfl rfl rfl (by kernel_rfl) (Pur.fld _ fo51_0 rfl) ?_
    refine RegD.take (i := 3) rfl rfl rfl rfl (by kernel_rfl) (Bks.cons hM.own.blk (Bks.cons o0_0.blk Bks.nil)) (fun H hS => Lod.ld sc22 rfl hS.hd rfl) ?_
    refine RegD.tpur (i := 4) rfl rfl rfl rfl (by kernel_rfl) (Pur.fld _ fo68_2 rfl) ?_
    refine RegD.take (i := 5) rfl rfl rfl rfl (by kernel_rfl) (Bks.cons hM.own.blk (Bks.cons o0_0.blk Bks.nil)) (fun H hS => Lod.ld sc3 rfl hS.tl.hd (by first | rfl | (simp; done))) ?_
    refine RegD.tpur (i := 6) rfl rfl rfl rfl (by kernel_rfl) (Pur.idx _ es22 rfl rfl (by omega) (by omega)) ?_
    refine RegD.tpur (i := 7) rfl rfl rfl rfl (by kernel_rfl) (Pur.fld _ fo68_3 rfl) ?_
    refine RegD.take (i := 8) rfl rfl rfl rfl (by kernel_rfl) (Bks.cons hM.own.blk (Bks.cons o0_0.blk Bks.nil)) (fun H hS => Lod.ld sc47 rfl hS.tl.hd (by first | rfl | (simp; done))) ?_
    refine RegD.tpur (i := 9) rfl rfl rfl rfl (by kernel_rfl) (Pur.asg rfl) ?_
    refine RegD.tpur (i := 10) rfl rfl rfl rfl (by kernel_rfl) (Pur.asg rfl) ?_
    refine RegD.done (by kernel_rfl) ?_
    refine At.region rfl rfl ?_
    refine Reg.pur rfl rfl rfl rfl (Pur.mv rfl) ?_
    refine Reg.pur rfl rfl rfl rfl (Pur.nilc rfl) ?_
    refine Reg.pur rfl rfl rfl rfl (Pur.fld _ fo37_5 rfl) ?_
    refine Reg.lod rfl rfl rfl rfl (Lod.ld sc3 rfl hB (hc 5 (by decide))) ?_
    refine Reg.pur rfl rfl rfl rfl (Pur.asg rfl) ?_
    refine Reg.nil ?_
    refine At.region rfl rfl ?_
    refine Reg.pur rfl rfl rfl rfl (Pur.mv rfl) ?_
    refine Reg.pur rfl rfl rfl rfl (Pur.nilc rfl) ?_
    refine Reg.pur rfl rfl rfl rfl (Pur.fld _ fo37_0 rfl) ?_
    refine Reg.lod rfl rfl rfl rfl (Lod.ld sc3 rfl hB (hc 0 (by decide))) ?_
    refine Reg.pur rfl rfl rfl rfl (Pur.eql rfl rfl) ?_
    refine Reg.nil ?_
    refine At.cond rfl rfl (fun q32 => ?_) (fun q32 => ?_)
    · first | (simp only [decide_eq_true_eq, decide_eq_false_iff_not, Bool.not_eq_true', Bool.not_eq_false', ne_eq, Decidable.not_not, Bool.not_eq_true, Bool.not_eq_false] at q32) | (dsimp only at q32) | skip
      refine At.drawE ((Bks.cons hB.blk (Bks.cons o0_0.blk Bks.nil))) [] mixed rfl rfl ?_
      refine RegD.tpur (i := 0) rfl rfl rfl rfl (by kernel_rfl) (Pur.mv rfl) ?_
      refine RegD.tpur (i := 1) rfl rfl rfl rfl (by kernel_rfl) (Pur.mv rfl) ?_
      refine RegD.tpur (i := 2) rfl rfl rfl rfl (by kernel_rfl) (Pur.nilc rfl) ?_
      refine RegD.tpur (i := 3) rfl rfl rfl rfl (by kernel_rfl) (Pur.fld _ fo37_5 rfl) ?_
      refine RegD.take (i := 4) rfl rfl rfl rfl (by kernel_rfl) (Bks.cons hB.blk (Bks.cons o0_0.blk Bks.nil)) (fun H hS => Lod.ld sc3 rfl hS.hd (hc 5 (by decide))) ?_
      refine RegD.take (i := 5) rfl rfl rfl rfl (by kernel_rfl) (Bks.cons hB.blk (Bks.cons o0_0.blk Bks.nil)) (fun H hS => Lod.ldn ag68 rfl hS.tl.hd (by first | exact whole rfl | rfl | (simp only [List.drop_succ_cons, List.drop_zero, List.take_succ_cons, List.take_zero]; rfl)) (by first | rfl | (simp [*]; done))) ?_
      refine RegD.tpur (i := 7) rfl rfl rfl rfl (by kernel_rfl) (Pur.mv rfl) ?_
      refine RegD.tpur (i := 8) rfl rfl rfl rfl (by kernel_rfl) (Pur.nilc rfl) ?_
      refine RegD.tpur (i := 9) rfl rfl rfl rfl (by kernel_rfl) (Pur.fld _ fo37_6 rfl) ?_
      refine RegD.take (i := 10) rfl rfl rfl rfl (by kernel_rfl) (Bks.cons hB.blk (Bks.cons o0_0.blk Bks.nil)) (fun H hS => Lod.ld sc3 rfl hS.hd (hc 6 (by decide))) ?_

      refine RegD.one (i := 6) (by kernel_rfl) rfl rfl rfl rfl (Does.call rfl (with_ok hM hf hen _)) ?_
      rintro v7 H7_6 ⟨G1, hle1, hen1, hM1, hE7_6⟩
      have z7_6 := hE7_6.lt
      first | replace hL := hL.ext hE7_6 | skip
      replace o0_0 := o0_0.ext hE7_6
      replace o0_1 := o0_1.ext hE7_6
      replace hB := hB.ext hE7_6
      refine ⟨fun _ _ => (Bks.cons hB.blk (Bks.cons o0_0.blk Bks.nil)), ?_⟩
      refine RegD.tpur (i := 11) rfl rfl rfl rfl (by kernel_rfl) (Pur.asg rfl) ?_
      refine RegD.tpur (i := 12) rfl rfl rfl rfl (by kernel_rfl) (Pur.asg rfl) ?_
      refine RegD.done (by kernel_rfl) ?_
      have hW := with_ok hM1 (repV_mono hle1 _ _ hv) hen1
      refine At.drawE ((Bks.cons hB.blk (Bks.cons o0_1.blk Bks.nil))) [] mixed rfl rfl ?_
      refine RegD.tpur (i := 0) rfl rfl rfl rfl (by kernel_rfl) (Pur.mv rfl) ?_
      refine RegD.tpur (i := 1) rfl rfl rfl rfl (by kernel_rfl) (Pur.mv rfl) ?_
      refine RegD.tpur (i := 2) rfl rfl rfl rfl (by kernel_rfl) (Pur.nilc rfl) ?_
      refine RegD.tpur (i := 3) rfl rfl rfl rfl (by kernel_rfl) (Pur.fld _ fo37_1 rfl) ?_
      refine RegD.take (i := 4) rfl rfl rfl rfl (by kernel_rfl) (Bks.cons hB.blk (Bks.cons o0_1.blk Bks.nil)) (fun H hS => Lod.ld sc3 rfl hS.hd (hc 1 (by decide))) ?_
      refine RegD.tpur (i := 5) rfl rfl rfl rfl (by kernel_rfl) (Pur.mv rfl) ?_
      refine RegD.tpur (i := 6) rfl rfl rfl rfl (by kernel_rfl) (Pur.mv rfl) ?_
      refine RegD.take (i := 7) rfl rfl rfl rfl (by kernel_rfl) (Bks.cons hB.blk (Bks.cons o0_1.blk Bks.nil)) (fun H hS => Lod.ldn ag68 rfl hS.tl.hd (by first | exact whole rfl | rfl | (simp only [List.drop_succ_cons, List.drop_zero, List.take_succ_cons, List.take_zero]; rfl)) (by first | rfl | (simp [*]; done))) ?_

      refine RegD.one (i := 8) (by kernel_rfl) rfl rfl rfl rfl (Does.call rfl (hW _)) ?_
      rintro v8 H8_8 ⟨G2, hle2, hen2, hM2, hE8_8⟩
      have z8_8 := hE8_8.lt
      first | replace hL := hL.ext hE8_8 | skip
      replace o0_0 := o0_0.ext hE8_8
      replace o0_1 := o0_1.ext hE8_8
      replace hB := hB.ext hE8_8
      refine ⟨fun _ _ => (Bks.cons hB.blk (Bks.cons o0_1.blk Bks.nil)), ?_⟩
      refine RegD.one (i := 9) (by kernel_rfl) rfl rfl rfl rfl (Does.call rfl (goes_ok hM2 _ _ (repE_cell hen2))) ?_
      rintro _ H8_9 ⟨hM3, hbut8_9⟩
      have z8_9 := hbut8_9.lt
      first | replace hL := hL.via hbut8_9 (by first | omega | (intro g; omega) | (intro g hg; omega) | (intro g hg h; omega)) | skip
      replace o0_0 := o0_0.via hbut8_9 (by first | omega | (intro g; omega) | (intro g hg; omega) | (intro g hg h; omega))
      replace o0_1 := o0_1.via hbut8_9 (by first | omega | (intro g; omega) | (intro g hg; omega) | (intro g hg h; omega))
      replace hB := hB.via hbut8_9 (by first | omega | (intro g; omega) | (intro g hg; omega) | (intro g hg h; omega))
      refine ⟨fun _ _ => (Bks.cons hB.blk (Bks.cons o0_1.blk Bks.nil)), ?_⟩
      refine RegD.done (by kernel_rfl) ?_
      refine At.ret rfl Try.func30 rfl ?_
      rw [show callM L fr (.fn fi en) v = _ from if_pos q32]
      exact After.ev hM3 hL hen2
    first | (simp only [decide_eq_true_eq, decide_eq_false_iff_not, Bool.not_eq_true', Bool.not_eq_false', ne_eq, Decidable.not_not, Bool.not_eq_true, Bool.not_eq_false] at q32) | (dsimp only at q32) | skip
    have hW := with_ok hM hv hen
    refine At.drawE ((Bks.cons hB.blk (Bks.cons o0_1.blk Bks.nil))) [] mixed rfl rfl ?_
    refine RegD.tpur (i := 0) rfl rfl rfl rfl (by kernel_rfl) (Pur.mv rfl) ?_
    refine RegD.tpur (i := 1) rfl rfl rfl rfl (by kernel_rfl) (Pur.mv rfl) ?_
    refine RegD.tpur (i := 2) rfl rfl rfl rfl (by kernel_rfl) (Pur.nilc rfl) ?_
    refine RegD.tpur (i := 3) rfl rfl rfl rfl (by kernel_rfl) (Pur.fld _ fo37_1 rfl) ?_
    refine RegD.take (i := 4) rfl rfl rfl rfl (by kernel_rfl) (Bks.cons hB.blk (Bks.cons o0_1.blk Bks.nil)) (fun H hS => Lod.ld sc3 rfl hS.hd (hc 1 (by decide))) ?_
    refine RegD.tpur (i := 5) rfl rfl rfl rfl (by kernel_rfl) (Pur.mv rfl) ?_
    refine RegD.tpur (i := 6) rfl rfl rfl rfl (by kernel_rfl) (Pur.mv rfl) ?_
    refine RegD.take (i := 7) rfl rfl rfl rfl (by kernel_rfl) (Bks.cons hB.blk (Bks.cons o0_1.blk Bks.nil)) (fun H hS => Lod.ldn ag68 rfl hS.tl.hd (by first | exact whole rfl | rfl | (simp only [List.drop_succ_cons, List.drop_zero, List.take_succ_cons, List.take_zero]; rfl)) (by first | rfl | (simp [*]; done))) ?_

    refine RegD.one (i := 8) (by kernel_rfl) rfl rfl rfl rfl (Does.call rfl (hW _)) ?_
    rintro v8 H8_8 ⟨G2, hle2, hen2, hM2, hE8_8⟩
    have z8_8 := hE8_8.lt
    first | replace hL := hL.ext hE8_8 | skip
    replace o0_0 := o0_0.ext hE8_8
    replace o0_1 := o0_1.ext hE8_8
    replace hB := hB.ext hE8_8
    refine ⟨fun _ _ => (Bks.cons hB.blk (Bks.cons o0_1.blk Bks.nil)), ?_⟩
    refine RegD.one (i := 9) (by kernel_rfl) rfl rfl rfl rfl (Does.call rfl (goes_ok hM2 _ _ (repE_cell hen2))) ?_
    rintro _ H8_9 ⟨hM3, hbut8_9⟩
    have z8_9 := hbut8_9.lt
    first | replace hL := hL.via hbut8_9 (by first | omega | (intro g; omega) | (intro g hg; omega) | (intro g hg h; omega)) | skip
    replace o0_0 := o0_0.via hbut8_9 (by first | omega | (intro g; omega) | (intro g hg; omega) | (intro g hg h; omega))
    replace o0_1 := o0_1.via hbut8_9 (by first | omega | (intro g; omega) | (intro g hg; omega) | (intro g hg h; omega))
    replace hB := hB.via hbut8_9 (by first | omega | (intro g; omega) | (intro g hg; omega) | (intro g hg h; omega))
    refine ⟨fun _ _ => (Bks.cons hB.blk (Bks.cons o0_1.blk Bks.nil)), ?_⟩
    refine RegD.done (by kernel_rfl) ?_
    refine At.ret rfl Try.func30 rfl ?_
    rw [show callM L fr (.fn fi en) v = _ from if_neg q32]
    exact After.ev hM3 hL hen2
  first | (simp only [decide_eq_true_eq, decide_eq_false_iff_not, Bool.not_eq_true', Bool.not_eq_false', ne_eq, Decidable.not_not, Bool.not_eq_true, Bool.not_eq_false] at q13) | (dsimp only at q13) | skip
  refine At.region rfl rfl ?_
  refine Reg.pur rfl rfl rfl rfl (Pur.eql rfl rfl) ?_
  refine Reg.pur rfl rfl rfl rfl (Pur.asg rfl) ?_
  refine Reg.nil ?_
  refine At.cond rfl rfl (fun q54 => ?_) (fun q54 => ?_)
  · first | (simp only [decide_eq_true_eq, decide_eq_false_iff_not, Bool.not_eq_true', Bool.not_eq_false', ne_eq, Decidable.not_not, Bool.not_eq_true, Bool.not_eq_false] at q54) | (dsimp only at q54) | skip
    obtain ⟨en, one, b1, d1, rfl, hen, rfl, hG1, hone⟩ := bnd_of hf q54
    refine At.region rfl rfl ?_
    refine Reg.pur rfl rfl rfl rfl (Pur.mv rfl) ?_
    refine Reg.pur rfl rfl rfl rfl (Pur.fld _ fo68_2 rfl) ?_
    refine Reg.lod rfl rfl rfl rfl (Lod.ld sc3 rfl o0_0.blk rfl) ?_
    refine Reg.pur rfl rfl rfl rfl (Pur.fld _ fo68_3 rfl) ?_
    refine Reg.lod rfl rfl rfl rfl (Lod.ld sc47 rfl o0_0.blk rfl) ?_
    refine Reg.pur rfl rfl rfl rfl (Pur.bld (cs := [_, _, _, _, _, _, _, _, _]) pl71 zc71 rfl rfl ⟨rfl, rfl, rfl, rfl, rfl, rfl, rfl, rfl, rfl, rfl⟩) ?_

    refine Reg.op rfl rfl rfl rfl (Does.call rfl (push_ok hM (repF_node hen) (by omega))) ?_
    rintro _ H10_6 ⟨A1, cap1, hM1, hbut10_6, hA1⟩
    have z10_6 := hbut10_6.lt
    first | replace hL := hL.via hbut10_6 (by first | omega | (intro g; omega) | (intro g hg; omega) | (intro g hg h; omega)) | skip
    replace o0_0 := o0_0.via hbut10_6 (by first | omega | (intro g; omega) | (intro g hg; omega) | (intro g hg h; omega))
    replace o0_1 := o0_1.via hbut10_6 (by first | omega | (intro g; omega) | (intro g hg; omega) | (intro g hg h; omega))
    refine Reg.nil ?_
    obtain ⟨n1, i1, p1, q1, r1, hd1⟩ := repV_cells hone
    rw [hd1] at hone
    have zM1 := hM1.lt
    refine At.region rfl rfl ?_
    refine Reg.pur rfl rfl rfl rfl (Pur.mv rfl) ?_
    refine Reg.pur rfl rfl rfl rfl (Pur.fld _ fo68_4 rfl) ?_
    refine Reg.lod rfl rfl rfl rfl (Lod.ld sc48 rfl o0_0.blk rfl) ?_
    refine Reg.pur rfl rfl rfl rfl (Pur.nilc rfl) ?_
    refine Reg.lod rfl rfl rfl rfl (Lod.ldn ag68 rfl (hM1.fz.st _ _ hG1) hd1 rfl) ?_
    refine Reg.pur rfl rfl rfl rfl (Pur.bld (cs := [_, _, _, _, _, _, _, _, _]) pl71 zc71 rfl rfl ⟨rfl, rfl, rfl, rfl, rfl, rfl, rfl, rfl, rfl, rfl⟩) ?_
    refine Reg.op rfl rfl rfl rfl (Does.call rfl (push_ok hM1 (repF_call hone) (by simp only [List.length_cons]; omega))) ?_
    rintro _ H13_6 ⟨A2, cap2, hM2, hbut13_6, hA2⟩
    have z13_6 := hbut13_6.lt
    first | replace hL := hL.via hbut13_6 (by first | omega | (intro g; omega) | (intro g hg; omega) | (intro g hg h; omega)) | skip
    replace o0_0 := o0_0.via hbut13_6 (by first | omega | (intro g; omega) | (intro g hg; omega) | (intro g hg h; omega))
    replace o0_1 := o0_1.via hbut13_6 (by first | omega | (intro g; omega) | (intro g hg; omega) | (intro g hg h; omega))
    refine Reg.nil ?_
    refine At.region rfl rfl ?_
    refine Reg.pur rfl rfl rfl rfl (Pur.mv rfl) ?_
    refine Reg.lod rfl rfl rfl rfl (Lod.ldn ag68 rfl o0_1.blk (by first | exact whole rfl | rfl | (simp only [List.drop_succ_cons, List.drop_zero, List.take_succ_cons, List.take_zero]; rfl)) (by first | rfl | (simp [*]; done))) ?_
    refine Reg.op rfl rfl rfl rfl (Does.call rfl (gives_ok hM2 hv)) ?_
    rintro _ H14_2 ⟨G3, pv3, hle3, hp3, hM3, hbut14_2⟩
    have z14_2 := hbut14_2.lt
    first | replace hL := hL.via hbut14_2 (by first | omega | (intro g; omega) | (intro g hg; omega) | (intro g hg h; omega)) | skip
    replace o0_0 := o0_0.via hbut14_2 (by first | omega | (intro g; omega) | (intro g hg; omega) | (intro g hg h; omega))
    replace o0_1 := o0_1.via hbut14_2 (by first | omega | (intro g; omega) | (intro g hg; omega) | (intro g hg h; omega))
    refine Reg.nil ?_
    refine At.fall rfl Try.func30 rfl ?_
    exact After.gv hM3 hL hp3
  first | (simp only [decide_eq_true_eq, decide_eq_false_iff_not, Bool.not_eq_true', Bool.not_eq_false', ne_eq, Decidable.not_not, Bool.not_eq_true, Bool.not_eq_false] at q54) | (dsimp only at q54) | skip
  refine At.region rfl rfl ?_
  refine Reg.pur rfl rfl rfl rfl (Pur.eql rfl rfl) ?_
  refine Reg.pur rfl rfl rfl rfl (Pur.asg rfl) ?_
  refine Reg.nil ?_
  refine At.cond rfl rfl (fun q63 => ?_) (fun q63 => ?_)
  · first | (simp only [decide_eq_true_eq, decide_eq_false_iff_not, Bool.not_eq_true', Bool.not_eq_false', ne_eq, Decidable.not_not, Bool.not_eq_true, Bool.not_eq_false] at q63) | (dsimp only at q63) | skip
    obtain ⟨one, two, b1, d1, b2, d2, rfl, rfl, hG1, hone, rfl, hG2, htwo⟩ := fwd_of hf q63
    obtain ⟨n2, i2, p2, q2, r2, hd2⟩ := repV_cells htwo
    rw [hd2] at htwo
    refine At.region rfl rfl ?_
    refine Reg.pur rfl rfl rfl rfl (Pur.mv rfl) ?_
    refine Reg.pur rfl rfl rfl rfl (Pur.fld _ fo68_5 rfl) ?_
    refine Reg.lod rfl rfl rfl rfl (Lod.ld sc48 rfl o0_0.blk rfl) ?_
    refine Reg.pur rfl rfl rfl rfl (Pur.nilc rfl) ?_
    refine Reg.lod rfl rfl rfl rfl (Lod.ldn ag68 rfl (hM.fz.st _ _ hG2) hd2 rfl) ?_
    refine Reg.pur rfl rfl rfl rfl (Pur.bld (cs := [_, _, _, _, _, _, _, _, _]) pl71 zc71 rfl rfl ⟨rfl, rfl, rfl, rfl, rfl, rfl, rfl, rfl, rfl, rfl⟩) ?_

    refine Reg.op rfl rfl rfl rfl (Does.call rfl (push_ok hM (repF_call htwo) (by omega))) ?_
    rintro _ H12_6 ⟨A1, cap1, hM1, hbut12_6, hA1⟩
    have z12_6 := hbut12_6.lt
    first | replace hL := hL.via hbut12_6 (by first | omega | (intro g; omega) | (intro g hg; omega) | (intro g hg h; omega)) | skip
    replace o0_0 := o0_0.via hbut12_6 (by first | omega | (intro g; omega) | (intro g hg; omega) | (intro g hg h; omega))
    replace o0_1 := o0_1.via hbut12_6 (by first | omega | (intro g; omega) | (intro g hg; omega) | (intro g hg h; omega))
    refine Reg.nil ?_
    obtain ⟨n1, i1, p1, q1, r1, hd1⟩ := repV_cells hone
    rw [hd1] at hone
    have zM1 := hM1.lt
    refine At.region rfl rfl ?_
    refine Reg.pur rfl rfl rfl rfl (Pur.mv rfl) ?_
    refine Reg.pur rfl rfl rfl rfl (Pur.fld _ fo68_4 rfl) ?_
    refine Reg.lod rfl rfl rfl rfl (Lod.ld sc48 rfl o0_0.blk rfl) ?_
    refine Reg.pur rfl rfl rfl rfl (Pur.nilc rfl) ?_
    refine Reg.lod rfl rfl rfl rfl (Lod.ldn ag68 rfl (hM1.fz.st _ _ hG1) hd1 rfl) ?_
    refine Reg.pur rfl rfl rfl rfl (Pur.bld (cs := [_, _, _, _, _, _, _, _, _]) pl71 zc71 rfl rfl ⟨rfl, rfl, rfl, rfl, rfl, rfl, rfl, rfl, rfl, rfl⟩) ?_
    refine Reg.op rfl rfl rfl rfl (Does.call rfl (push_ok hM1 (repF_call hone) (by simp only [List.length_cons]; omega))) ?_
    rintro _ H13_6 ⟨A2, cap2, hM2, hbut13_6, hA2⟩
    have z13_6 := hbut13_6.lt
    first | replace hL := hL.via hbut13_6 (by first | omega | (intro g; omega) | (intro g hg; omega) | (intro g hg h; omega)) | skip
    replace o0_0 := o0_0.via hbut13_6 (by first | omega | (intro g; omega) | (intro g hg; omega) | (intro g hg h; omega))
    replace o0_1 := o0_1.via hbut13_6 (by first | omega | (intro g; omega) | (intro g hg; omega) | (intro g hg h; omega))
    refine Reg.nil ?_
    refine At.region rfl rfl ?_
    refine Reg.pur rfl rfl rfl rfl (Pur.mv rfl) ?_
    refine Reg.lod rfl rfl rfl rfl (Lod.ldn ag68 rfl o0_1.blk (by first | exact whole rfl | rfl | (simp only [List.drop_succ_cons, List.drop_zero, List.take_succ_cons, List.take_zero]; rfl)) (by first | rfl | (simp [*]; done))) ?_
    refine Reg.op rfl rfl rfl rfl (Does.call rfl (gives_ok hM2 hv)) ?_
    rintro _ H14_2 ⟨G3, pv3, hle3, hp3, hM3, hbut14_2⟩
    have z14_2 := hbut14_2.lt
    first | replace hL := hL.via hbut14_2 (by first | omega | (intro g; omega) | (intro g hg; omega) | (intro g hg h; omega)) | skip
    replace o0_0 := o0_0.via hbut14_2 (by first | omega | (intro g; omega) | (intro g hg; omega) | (intro g hg h; omega))
    replace o0_1 := o0_1.via hbut14_2 (by first | omega | (intro g; omega) | (intro g hg; omega) | (intro g hg h; omega))
    refine Reg.nil ?_
    refine At.fall rfl Try.func30 rfl ?_
    exact After.gv hM3 hL hp3
  first | (simp only [decide_eq_true_eq, decide_eq_false_iff_not, Bool.not_eq_true', Bool.not_eq_false', ne_eq, Decidable.not_not, Bool.not_eq_true, Bool.not_eq_false] at q63) | (dsimp only at q63) | skip
  refine At.region rfl rfl ?_
  refine Reg.pur rfl rfl rfl rfl (Pur.mv rfl) ?_

  refine Reg.op rfl rfl rfl rfl (Does.call rfl (stuck_ok hM)) ?_
  rintro _ H2_1 ⟨b2, hM1, hb1, hbut2_1⟩
  have z2_1 := hbut2_1.lt
  first | replace hL := hL.via hbut2_1 (by first | omega | (intro g; omega) | (intro g hg; omega) | (intro g hg h; omega)) | skip
  replace o0_0 := o0_0.via hbut2_1 (by first | omega | (intro g; omega) | (intro g hg; omega) | (intro g hg h; omega))
  replace o0_1 := o0_1.via hbut2_1 (by first | omega | (intro g; omega) | (intro g hg; omega) | (intro g hg h; omega))
  refine Reg.nil ?_
  refine At.ret rfl Try.func30 rfl ?_
  rw [callM_no q13 q54 q63]
  exact After.fin hM1 hL hl hb1
/-- who goes on: a pointer to a value, or nil -/
def Onw (G : Gh) (on : Option T) (p : Value) : Prop := match on with | some w => repP G w p | none => p = nilp
/-- what comes of a computation -/
def compM (x : List Int) (fr : List Fr) (en v : T) (on : Option T) : Ou :=
  match v with
  | .ret one => .go (.ev fr (x.getD 2 0) (.env one (x.getD 5 0) en))
  | .op n one _ => match on with
    | some w => .go (.gv fr (.op n one w))
    | none => .fin 5 0
  | _ => .fin 5 0
theorem compM_no {x : List Int} {en v : T} {on : Option T} (h5 : kp v ≠ 5) (h6 : ¬ (kp v = 6 ∧ on ≠ none)) : compM x fr en v on = .fin 5 0 := by
  cases v <;> simp only [kp] at h5 h6 <;> (try rfl) <;> (try omega)
  cases on with
  | none => rfl
  | some w => exact (h6 ⟨trivial, by simp⟩).elim
theorem onw_ptr {G : Gh} {on : Option T} {p : Value} (h : Onw G on p) : ∃ Ap, p = .pointer Ap ∧ (Ap.isNone = true ↔ on = none) := by
  cases on with
  | none => exact ⟨none, h, by simp⟩
  | some w => obtain ⟨b, d, rfl, _⟩ := h; exact ⟨_, rfl, by simp⟩
theorem computed_ok {H : Heap} (hT : Tm L) (hM : Ms L N m B G s H fr A cap nd pe pv nilp) {i w : Int} {en v : T} {p : Value} {fb : Nat} {hc' vc : List Value} (hn : Go.Proofs.Ytjhkmebmbopfoaa.nd L i) (hk : (el L i).getD 0 0 = 11 ∨ (el L i).getD 0 0 = 12)
    (hfb : Blk H fb (I w :: I i :: p :: hc')) (hfm : fb ≠ m ∧ (fb : Int) ≠ ob A) (hen : repE G en p) (hv : repV G v vc) {on : Option T} {Ao : Option Addr} (hon : kp v = 6 → Onw G on (.pointer Ao)) (hl : fr.length ≤ 4096) :
    Ret Try.prog 47 [ptr m 0, ptr fb 0, .agg vc.toArray, .pointer Ao] H (fun _ H' => After L N m B (ob A) H (compM (el L i) fr en v on) H') := by
  obtain ⟨vn, vi, vp, vq, vr, rfl⟩ := repV_cells hv
  have hAo : kp v = 6 → (Ao.isNone = true ↔ on = none) := fun h => by
    obtain ⟨Ab, he, hh⟩ := onw_ptr (hon h)
    cases he; exact hh
  obtain ⟨Ap, rfl⟩ := repE_one hen
  obtain ⟨bn, on', capn, cn, rfl, hB, hbB, hc⟩ := hM.node hn.1 hn.2
  have hn0 : 0 ≤ i := hn.1
  have hn1 : i < L.length := hn.2
  have hL := Chm.refl m (ob A) H
  have zM := hM.lt
  refine Ret.of_at (N := 59) Try.call47 Try.func47 rfl rfl rfl ?_
  have hE := Ext.refl H
  have z_hL := hL.lt
  have z_hM := hM.lt
  have z_hB := hB.lt
  have z_hfb := hfb.lt
  refine At.region rfl rfl ?_
  refine Reg.op rfl rfl rfl rfl (Does.box rfl rfl) ?_
  rintro _ H0_0 ⟨rfl, hn0_0⟩
  have z0_0 := hn0_0.size
  first | replace hL := hL.ext hn0_0.ext | skip
  replace hM := hM.ext hn0_0.ext
  replace hB := hB.ext hn0_0.ext
  replace hfb := hfb.ext hn0_0.ext
  have o0_0 := hn0_0.own
  refine Reg.nil ?_
  refine At.drawE ((Bks.cons hM.own.blk (Bks.cons hfb.blk Bks.nil))) [] mixed rfl rfl ?_
  refine RegD.tpur (i := 0) rfl rfl rfl rfl (by kernel_rfl) (Pur.mv rfl) ?_
  refine RegD.tpur (i := 1) rfl rfl rfl rfl (by kernel_rfl) (Pur.nilc rfl) ?_
  refine RegD.tpur (i := 2) rfl rfl rfl rfl (by kernel_rfl) (Pur.fld _ fo51_0 rfl) ?_
  refine RegD.take (i := 3) rfl rfl rfl rfl (by kernel_rfl) (Bks.cons hM.own.blk (Bks.cons hfb.blk Bks.nil)) (fun H hS => Lod.ld sc22 rfl hS.hd rfl) ?_
  refine RegD.tpur (i := 4) rfl rfl rfl rfl (by kernel_rfl) (Pur.mv rfl) ?_
  refine RegD.tpur (i := 5) rfl rfl rfl rfl (by kernel_rfl) (Pur.nilc rfl) ?_
  refine RegD.tpur (i := 6) rfl rfl rfl rfl (by kernel_rfl) (Pur.fld _ fo71_1 rfl) ?_
  refine RegD.take (i := 7) rfl rfl rfl rfl (by kernel_rfl) (Bks.cons hM.own.blk (Bks.cons hfb.blk Bks.nil)) (fun H hS => Lod.ld sc3 rfl hS.tl.hd rfl) ?_
  refine RegD.tpur (i := 8) rfl rfl rfl rfl (by kernel_rfl) (Pur.idx _ es22 rfl rfl (by omega) (by omega)) ?_
  refine RegD.tpur (i := 9) rfl rfl rfl rfl (by kernel_rfl) (Pur.asg rfl) ?_
  refine RegD.done (by kernel_rfl) ?_
  refine At.region rfl rfl ?_
  refine Reg.pur rfl rfl rfl rfl (Pur.fld _ fo68_0 rfl) ?_
  refine Reg.lod rfl rfl rfl rfl (Lod.ld sc66 rfl o0_0.blk rfl) ?_
  refine Reg.pur rfl rfl rfl rfl (Pur.eql rfl rfl) ?_
  refine Reg.pur rfl rfl rfl rfl (Pur.asg rfl) ?_
  refine Reg.nil ?_
  refine At.cond rfl rfl (fun q20 => ?_) (fun q20 => ?_)
  · first | (simp only [decide_eq_true_eq, decide_eq_false_iff_not, Bool.not_eq_true', Bool.not_eq_false', ne_eq, Decidable.not_not, Bool.not_eq_true, Bool.not_eq_false] at q20) | (dsimp only at q20) | skip
    obtain ⟨one, b1, d1, rfl, rfl, hG1, hone⟩ := ret_of hv q20
    obtain ⟨n1, i1, p1, q1, r1, hd1⟩ := repV_cells hone
    rw [hd1] at hone
    have hB1 := hM.fz.st _ _ hG1
    have hne1 := hM.gne hG1
    have z_hB1 := hB1.lt
    refine At.drawE ((Bks.cons hB.blk (Bks.cons hfb.blk (Bks.cons o0_0.blk (Bks.cons hB1.blk Bks.nil))))) [] mixed rfl rfl ?_
    refine RegD.tpur (i := 0) rfl rfl rfl rfl (by kernel_rfl) (Pur.mv rfl) ?_
    refine RegD.tpur (i := 1) rfl rfl rfl rfl (by kernel_rfl) (Pur.mv rfl) ?_
    refine RegD.tpur (i := 2) rfl rfl rfl rfl (by kernel_rfl) (Pur.nilc rfl) ?_
    refine RegD.tpur (i := 3) rfl rfl rfl rfl (by kernel_rfl) (Pur.fld _ fo37_2 rfl) ?_
    refine RegD.take (i := 4) rfl rfl rfl rfl (by kernel_rfl) (Bks.cons hB.blk (Bks.cons hfb.blk (Bks.cons o0_0.blk (Bks.cons hB1.blk Bks.nil)))) (fun H hS => Lod.ld sc3 rfl hS.hd (hc 2 (by decide))) ?_
    refine RegD.tpur (i := 5) rfl rfl rfl rfl (by kernel_rfl) (Pur.mv rfl) ?_
    refine RegD.tpur (i := 6) rfl rfl rfl rfl (by kernel_rfl) (Pur.nilc rfl) ?_
    refine RegD.tpur (i := 7) rfl rfl rfl rfl (by kernel_rfl) (Pur.fld _ fo71_2 rfl) ?_
    refine RegD.take (i := 8) rfl rfl rfl rfl (by kernel_rfl) (Bks.cons hB.blk (Bks.cons hfb.blk (Bks.cons o0_0.blk (Bks.cons hB1.blk Bks.nil)))) (fun H hS => Lod.ld sc47 rfl hS.tl.hd rfl) ?_
    refine RegD.tpur (i := 9) rfl rfl rfl rfl (by kernel_rfl) (Pur.mv rfl) ?_
    refine RegD.tpur (i := 10) rfl rfl rfl rfl (by kernel_rfl) (Pur.nilc rfl) ?_
    refine RegD.tpur (i := 11) rfl rfl rfl rfl (by kernel_rfl) (Pur.fld _ fo37_5 rfl) ?_
    refine RegD.take (i := 12) rfl rfl rfl rfl (by kernel_rfl) (Bks.cons hB.blk (Bks.cons hfb.blk (Bks.cons o0_0.blk (Bks.cons hB1.blk Bks.nil)))) (fun H hS => Lod.ld sc3 rfl hS.hd (hc 5 (by decide))) ?_
    refine RegD.tpur (i := 13) rfl rfl rfl rfl (by kernel_rfl) (Pur.fld _ fo68_4 rfl) ?_
    refine RegD.take (i := 14) rfl rfl rfl rfl (by kernel_rfl) (Bks.cons hB.blk (Bks.cons hfb.blk (Bks.cons o0_0.blk (Bks.cons hB1.blk Bks.nil)))) (fun H hS => Lod.ld sc48 rfl hS.tl.tl.hd rfl) ?_
    refine RegD.tpur (i := 15) rfl rfl rfl rfl (by kernel_rfl) (Pur.nilc rfl) ?_
    refine RegD.take (i := 16) rfl rfl rfl rfl (by kernel_rfl) (Bks.cons hB.blk (Bks.cons hfb.blk (Bks.cons o0_0.blk (Bks.cons hB1.blk Bks.nil)))) (fun H hS => Lod.ldn ag68 rfl hS.tl.tl.tl.hd hd1 rfl) ?_

    refine RegD.one (i := 17) (by kernel_rfl) rfl rfl rfl rfl (Does.call rfl (with_ok hM hone hen _)) ?_
    rintro v4 H4_17 ⟨G1, hle1, hen1, hM1, hE4_17⟩
    have z4_17 := hE4_17.lt
    first | replace hL := hL.ext hE4_17 | skip
    replace hB := hB.ext hE4_17
    replace hfb := hfb.ext hE4_17
    replace o0_0 := o0_0.ext hE4_17
    replace hB1 := hB1.ext hE4_17
    refine ⟨fun _ _ => (Bks.cons hB.blk (Bks.cons hfb.blk (Bks.cons o0_0.blk (Bks.cons hB1.blk Bks.nil)))), ?_⟩
    refine RegD.one (i := 18) (by kernel_rfl) rfl rfl rfl rfl (Does.call rfl (goes_ok hM1 _ _ (repE_cell hen1))) ?_
    rintro _ H4_18 ⟨hM2, hbut4_18⟩
    have z4_18 := hbut4_18.lt
    first | replace hL := hL.via hbut4_18 (by first | omega | (intro g; omega) | (intro g hg; omega) | (intro g hg h; omega)) | skip
    replace hB := hB.via hbut4_18 (by first | omega | (intro g; omega) | (intro g hg; omega) | (intro g hg h; omega))
    replace hfb := hfb.via hbut4_18 (by first | omega | (intro g; omega) | (intro g hg; omega) | (intro g hg h; omega))
    replace o0_0 := o0_0.via hbut4_18 (by first | omega | (intro g; omega) | (intro g hg; omega) | (intro g hg h; omega))
    replace hB1 := hB1.via hbut4_18 (by first | omega | (intro g; omega) | (intro g hg; omega) | (intro g hg h; omega))
    refine ⟨fun _ _ => (Bks.cons hB.blk (Bks.cons hfb.blk (Bks.cons o0_0.blk (Bks.cons hB1.blk Bks.nil)))), ?_⟩
    refine RegD.done (by kernel_rfl) ?_
    refine At.fall rfl Try.func47 rfl ?_
    exact After.ev hM2 hL hen1
  first | (simp only [decide_eq_true_eq, decide_eq_false_iff_not, Bool.not_eq_true', Bool.not_eq_false', ne_eq, Decidable.not_not, Bool.not_eq_true, Bool.not_eq_false] at q20) | (dsimp only at q20) | skip
  refine At.region rfl rfl ?_
  refine Reg.pur rfl rfl rfl rfl (Pur.fld _ fo68_0 rfl) ?_
  refine Reg.lod rfl rfl rfl rfl (Lod.ld sc66 rfl o0_0.blk rfl) ?_
  refine Reg.pur rfl rfl rfl rfl (Pur.eql rfl rfl) ?_
  refine Reg.pur rfl rfl rfl rfl (Pur.mv rfl) ?_
  refine Reg.case 47 rfl (fun q47 => ?_) (fun q47 => ?_)
  · first | (simp only [decide_eq_true_eq, decide_eq_false_iff_not, Bool.not_eq_true', Bool.not_eq_false', ne_eq, Decidable.not_not, Bool.not_eq_true, Bool.not_eq_false] at q47) | (dsimp only at q47) | skip
    refine Reg.gpur rfl rfl rfl rfl rfl rfl (Pur.mv rfl) ?_
    refine Reg.gpur rfl rfl rfl rfl rfl rfl (Pur.nePN isPt48 rfl rfl) ?_
    refine Reg.pur rfl rfl rfl rfl (Pur.pickT rfl rfl) ?_
    refine Reg.pur rfl rfl rfl rfl (Pur.asg rfl) ?_
    refine Reg.nil ?_
    refine At.cond rfl rfl (fun q43 => ?_) (fun q43 => ?_)
    · first | (simp only [decide_eq_true_eq, decide_eq_false_iff_not, Bool.not_eq_true', Bool.not_eq_false', ne_eq, Decidable.not_not, Bool.not_eq_true, Bool.not_eq_false] at q43) | (dsimp only at q43) | skip
      have h6 : kp v = 6 := by simp_all
      obtain ⟨one, two, b1, d1, b2, d2, rfl, rfl, hG1, hone, rfl, hG2, htwo⟩ := op_of hv h6
      replace hon := hon h6
      replace hAo := hAo h6
      cases on with | none => (exfalso; simp_all) | some ww => ?_
      refine At.region rfl rfl ?_
      refine Reg.pur rfl rfl rfl rfl (Pur.mv rfl) ?_
      refine Reg.pur rfl rfl rfl rfl (Pur.fld _ fo68_1 rfl) ?_
      refine Reg.lod rfl rfl rfl rfl (Lod.ld sc3 rfl o0_0.blk rfl) ?_
      refine Reg.pur rfl rfl rfl rfl (Pur.fld _ fo68_4 rfl) ?_
      refine Reg.lod rfl rfl rfl rfl (Lod.ld sc48 rfl o0_0.blk rfl) ?_
      refine Reg.pur rfl rfl rfl rfl (Pur.mv rfl) ?_
      refine Reg.pur rfl rfl rfl rfl (Pur.bld (cs := [_, _, _, _, _, _]) pl68 zc68 rfl rfl ⟨rfl, rfl, rfl, rfl, rfl, rfl, rfl⟩) ?_

      refine Reg.op rfl rfl rfl rfl (Does.call rfl (gives_ok hM (v := .op vn one ww) (vc := [I 6, I vn, I 0, nilp, ptr b1 0, .pointer Ao]) (by obtain ⟨b3, d3, e3, hG3, hw3⟩ := hon; simp only [repV]; exact ⟨b1, d1, b3, d3, by rw [e3], hG1, hone, hG3, hw3⟩))) ?_
      rintro _ H6_7 ⟨G3, pv3, hle3, hp3, hM3, hbut6_7⟩
      have z6_7 := hbut6_7.lt
      first | replace hL := hL.via hbut6_7 (by first | omega | (intro g; omega) | (intro g hg; omega) | (intro g hg h; omega)) | skip
      replace hB := hB.via hbut6_7 (by first | omega | (intro g; omega) | (intro g hg; omega) | (intro g hg h; omega))
      replace hfb := hfb.via hbut6_7 (by first | omega | (intro g; omega) | (intro g hg; omega) | (intro g hg h; omega))
      replace o0_0 := o0_0.via hbut6_7 (by first | omega | (intro g; omega) | (intro g hg; omega) | (intro g hg h; omega))
      refine Reg.nil ?_
      refine At.fall rfl Try.func47 rfl ?_
      exact After.gv hM3 hL hp3
    first | (simp only [decide_eq_true_eq, decide_eq_false_iff_not, Bool.not_eq_true', Bool.not_eq_false', ne_eq, Decidable.not_not, Bool.not_eq_true, Bool.not_eq_false] at q43) | (dsimp only at q43) | skip
    refine At.region rfl rfl ?_
    refine Reg.pur rfl rfl rfl rfl (Pur.mv rfl) ?_

    refine Reg.op rfl rfl rfl rfl (Does.call rfl (stuck_ok hM)) ?_
    rintro _ H2_1 ⟨b2, hM1, hb1, hbut2_1⟩
    have z2_1 := hbut2_1.lt
    first | replace hL := hL.via hbut2_1 (by first | omega | (intro g; omega) | (intro g hg; omega) | (intro g hg h; omega)) | skip
    replace hB := hB.via hbut2_1 (by first | omega | (intro g; omega) | (intro g hg; omega) | (intro g hg h; omega))
    replace hfb := hfb.via hbut2_1 (by first | omega | (intro g; omega) | (intro g hg; omega) | (intro g hg h; omega))
    replace o0_0 := o0_0.via hbut2_1 (by first | omega | (intro g; omega) | (intro g hg; omega) | (intro g hg h; omega))
    refine Reg.nil ?_
    refine At.fall rfl Try.func47 rfl ?_
    rw [compM_no q20 (by intro hh; have := hAo hh.1; simp_all)]
    exact After.fin hM1 hL hl hb1
  first | (simp only [decide_eq_true_eq, decide_eq_false_iff_not, Bool.not_eq_true', Bool.not_eq_false', ne_eq, Decidable.not_not, Bool.not_eq_true, Bool.not_eq_false] at q47) | (dsimp only at q47) | skip
  refine Reg.skip rfl rfl rfl rfl rfl rfl rfl ?_
  refine Reg.skip rfl rfl rfl rfl rfl rfl rfl ?_
  refine Reg.pur rfl rfl rfl rfl (Pur.pickF rfl rfl) ?_
  refine Reg.pur rfl rfl rfl rfl (Pur.asg rfl) ?_
  refine Reg.nil ?_
  refine At.condF rfl rfl rfl ?_
  refine At.region rfl rfl ?_
  refine Reg.pur rfl rfl rfl rfl (Pur.mv rfl) ?_

  refine Reg.op rfl rfl rfl rfl (Does.call rfl (stuck_ok hM)) ?_
  rintro _ H2_1 ⟨b2, hM1, hb1, hbut2_1⟩
  have z2_1 := hbut2_1.lt
  first | replace hL := hL.via hbut2_1 (by first | omega | (intro g; omega) | (intro g hg; omega) | (intro g hg h; omega)) | skip
  replace hB := hB.via hbut2_1 (by first | omega | (intro g; omega) | (intro g hg; omega) | (intro g hg h; omega))
  replace hfb := hfb.via hbut2_1 (by first | omega | (intro g; omega) | (intro g hg; omega) | (intro g hg h; omega))
  replace o0_0 := o0_0.via hbut2_1 (by first | omega | (intro g; omega) | (intro g hg; omega) | (intro g hg h; omega))
  refine Reg.nil ?_
  refine At.fall rfl Try.func47 rfl ?_
  rw [compM_no q20 (by intro hh; have := hAo hh.1; simp_all)]
  exact After.fin hM1 hL hl hb1
end Go.Proofs.Ytjhkmebmbopfoaa
