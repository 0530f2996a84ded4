/-
  The reference's solver: types.
-/
import Derived.Test.YtlfillhffpiffaaRUniRB
namespace Go.Proofs.Ytlfillhffpiffaa
set_option linter.unusedSimpArgs false
set_option linter.unusedVariables false
set_option maxRecDepth 8000
set_option maxHeartbeats 4000000
open Go Go.Fx Go.Proofs
namespace FactsUniRC
theorem ag25 : ag Try.prog 25 = some 1 := by kernel_rfl
theorem ag28 : ag Try.prog 28 = some 5 := by kernel_rfl
theorem ag47 : ag Try.prog 47 = some 9 := by kernel_rfl
theorem fo127_0 : foff Try.prog 127 0 = some 0 := by kernel_rfl
theorem fo127_2 : foff Try.prog 127 2 = some 2 := by kernel_rfl
theorem fo47_0 : foff Try.prog 47 0 = some 0 := by kernel_rfl
theorem fo47_1 : foff Try.prog 47 1 = some 1 := by kernel_rfl
theorem fo47_4 : foff Try.prog 47 4 = some 4 := by kernel_rfl
theorem mixed : Try.prog.follows .mixedOrders = true := by kernel_rfl
theorem sc22 : sc Try.prog 22 = true := by kernel_rfl
theorem sc3 : sc Try.prog 3 = true := by kernel_rfl
theorem zc25 : zc Try.prog 25 = some [.slice none 0 0] := by kernel_rfl
theorem zc47 : zc Try.prog 47 = some [.int .i64 0, .int .i64 0, .int .i64 0, .int .i64 0, .int .i64 0, .int .i64 0, .int .i64 0, .int .i64 0, .int .i64 0] := by kernel_rfl
end FactsUniRC
open FactsUniRC

def encO : Option Tm → List (List Int)
  | some u => u.enc 0
  | none => []
theorem TypB.oe {B : Nat} {H' : Heap} {v : Value} {Ts : List Bt} {t : Tm} (h : TypB B H' v ((tys Ts t).map (·.enc 0))) :
    ∃ A c, v = .tuple #[Ty A (encO (tys Ts t)).length c, .bool (tys Ts t).isSome] ∧ Gs H' B 47 9 A c (encO (tys Ts t)).length ((encO (tys Ts t)).flatMap Is) ∧ Nine (encO (tys Ts t)) ∧ (encO (tys Ts t)).length ≤ 256 := by
  cases ht : tys Ts t with
  | none => rw [ht] at h; exact ⟨none, 0, h, OwnS.nil _ _ _ _, (fun x hx => by cases hx), by simp [encO]⟩
  | some u =>
    rw [ht] at h
    obtain ⟨A, cap, h1, h2, h3, h4⟩ := h
    exact ⟨A, cap, h1, h2, h3, h4⟩
theorem RfP.code {H H' : Heap} {lo sb : Nat} {A : Option Addr} {r : Except Int Us} (h : RfP H lo sb A r H') : ∃ x y c, Own H' sb [x, y, I c] ∧ (c = 0 ↔ isOk r = true) := by
  cases r with
  | ok u => obtain ⟨A', cap', Bs', _, h2, _⟩ := h; exact ⟨_, _, 0, h2, by simp [isOk]⟩
  | error c => obtain ⟨⟨x, f, h1⟩, h2, _⟩ := h; exact ⟨x, f, c, h1, by simp [isOk, h2]⟩
theorem not_of {b : Bool} (h : ¬ b = true) : b = false := by simpa using h
theorem bds256 {H : Heap} {lo sb cap : Nat} {A : Option Addr} {Bs : List Bd} {Ts : List Bt} (h : Slv H lo sb A cap Bs Ts) : ∀ b ∈ Bs, b.nodes.length ≤ 256 := by
  intro b hb
  obtain ⟨i, hi, rfl⟩ := List.mem_iff_getElem.1 hb
  have hj : i < Ts.length := by rw [h.lenT]; exact hi
  exact oks256 (pl_at h.pl hi hj) (h.tok _ (List.getElem_mem hj))
theorem lst_at {t : Tm} (h : t.ok) (i : Nat) (hi : i < 9) : (Is t.lst)[0 + i]? = some (I (t.lst.getD i 0)) := by
  rw [Nat.zero_add]; exact at_Is (by rw [lst_nine h]; exact hi)
theorem typesR_ok : ∀ (n : Nat) {H : Heap} {lo sb cap : Nat} {A : Option Addr} {Bs : List Bd} {us : Us} {a b : Tm} {r : Except Int Us} (hu : uniU n us a b = some r) (hG : Good us) (h : Slv H lo sb A cap Bs us.1) (ho : Own H sb [.slice A Bs.length cap, I us.2, I 0]) (ha : a.ok) (haz : a.sz ≤ 256) (hb : b.ok) (hbz : b.sz ≤ 256) (hla : Lw us.2 a) (hlb : Lw us.2 b)
    {A1 A2 : Option Addr} {c1 c2 : Nat} (hS1 : SlT H Is 9 (.slice A1 (a.enc 0).length c1) (a.enc 0)) (hS2 : SlT H Is 9 (.slice A2 (b.enc 0).length c2) (b.enc 0)),
    Ret Try.prog 79 [ptr sb 0, Ty A1 (a.enc 0).length c1, Ty A2 (b.enc 0).length c2] H (fun _ => RfP H lo sb A r)
  | 0, _, _, _, _, _, _, _, _, _, _, hu, _, _, _, _, _, _, _, _, _, _, _, _, _, _, _ => by cases hu
  | n + 1, H, lo, sb, cap, A, Bs, us, a, b, r, hu, hG, h, ho, ha, haz, hb, hbz, hla, hlb, A1, A2, c1, c2, hS1, hS2 => by
    have hlen : Bs.length ≤ 8192 := by rw [← h.lenT]; exact hG.len
    have hgl := h.lt
    have hqa := typS_tys h.pl h.tok a
    have hqb := typS_tys h.pl h.tok b
    have h9a := a.enc_nine 0 ha
    have h9b := b.enc_nine 0 hb
    have hMa := enc_typ ha haz
    have hMb := enc_typ hb hbz
    refine Ret.of_at (N := 131) Try.call79 Try.func79 rfl rfl rfl ?_
    have hE := Ext.refl H
    have z_hE := hE.lt
    have z_ho := ho.lt
    refine At.region rfl rfl ?_
    refine Reg.op rfl rfl rfl rfl (Does.box rfl rfl) ?_
    rintro _ H0_0 ⟨rfl, hn0_0⟩
    have z0_0 := hn0_0.size
    replace hE := hE.ext hn0_0.ext
    replace ho := ho.ext hn0_0.ext
    have o0_0 := hn0_0.own
    refine Reg.op rfl rfl rfl rfl (Does.box rfl rfl) ?_
    rintro _ H0_1 ⟨rfl, hn0_1⟩
    have z0_1 := hn0_1.size
    replace hE := hE.ext hn0_1.ext
    replace ho := ho.ext hn0_1.ext
    replace o0_0 := o0_0.ext hn0_1.ext
    have o0_1 := hn0_1.own
    refine Reg.nil ?_
    refine At.drawJ (σ := Nat × Option Addr × Nat) (fun (b6, Ap, cp) => [(6, ptr b6 0), (7, .bool (tys us.1 a).isSome), (0, ptr sb 0), (5, ptr H0_0.size 0)]) (fun (b6, Ap, cp) H' => Own H' b6 [.slice Ap (encO (tys us.1 a)).length cp] ∧ Gs H' H.size 47 9 Ap cp (encO (tys us.1 a)).length ((encO (tys us.1 a)).flatMap Is) ∧ Nine (encO (tys us.1 a)) ∧ (encO (tys us.1 a)).length ≤ 256 ∧ Own H' sb [.slice A Bs.length cap, I us.2, I 0] ∧ Own H' H0_0.size [.slice A2 (b.enc 0).length c2] ∧ Ext H H' ∧ H.size ≤ b6) ((Bks.cons ho.blk (Bks.cons o0_0.blk Bks.nil))) [5, 10] mixed rfl rfl ?_ (fun s H_r1 hs => ?_)
    · refine RegD.tpur (i := 0) rfl rfl rfl rfl (by kernel_rfl) (Pur.mv rfl) ?_
      refine RegD.tpur (i := 1) rfl rfl rfl rfl (by kernel_rfl) (Pur.nilc rfl) ?_
      refine RegD.tpur (i := 2) rfl rfl rfl rfl (by kernel_rfl) (Pur.fld _ fo127_0 rfl) ?_
      refine RegD.take (i := 3) rfl rfl rfl rfl (by kernel_rfl) (Bks.cons ho.blk (Bks.cons o0_0.blk Bks.nil)) (fun H hS => Lod.ld sc22 rfl hS.hd rfl) ?_
      refine RegD.take (i := 4) rfl rfl rfl rfl (by kernel_rfl) (Bks.cons ho.blk (Bks.cons o0_0.blk Bks.nil)) (fun H hS => Lod.ldn ag25 rfl hS.tl.hd (whole rfl) rfl) ?_
      refine RegD.fork2 (i := 5) (j := 9) (by kernel_rfl) ?_ ?_
      · refine RegOp.one (i := 5) rfl rfl rfl rfl (Does.call rfl (typeOf_ok (h.bds.ext hE) (bds256 h) (hS1.ext hE) h9a hMa)) ?_
        rintro v1_5 H1_5 ⟨hE1_5, hT0⟩
        have z1_5 := hE1_5.lt
        replace hE := hE.ext hE1_5
        replace ho := ho.ext hE1_5
        replace o0_0 := o0_0.ext hE1_5
        replace o0_1 := o0_1.ext hE1_5
        rw [hqa] at hT0
        obtain ⟨Ap, cp, rfl, hGp, hNp, hlp⟩ := hT0.oe
        clear hT0
        have z_hGp := hGp.lt
        refine ⟨fun h => (by cases h), ?_⟩
        refine RegD.tpur (i := 6) rfl rfl rfl rfl (by kernel_rfl) (Pur.mv rfl) ?_
        refine RegD.tpur (i := 7) rfl rfl rfl rfl (by kernel_rfl) (Pur.ext rfl rfl) ?_
        refine RegD.tpur (i := 8) rfl rfl rfl rfl (by kernel_rfl) (Pur.ext rfl rfl) ?_
        refine RegD.one (i := 9) (by kernel_rfl) rfl rfl rfl rfl (Does.alloc zc25) ?_
        rintro _ H1_9 ⟨rfl, hn1_9⟩
        have z1_9 := hn1_9.size
        replace hE := hE.ext hn1_9.ext
        replace ho := ho.ext hn1_9.ext
        replace o0_0 := o0_0.ext hn1_9.ext
        replace o0_1 := o0_1.ext hn1_9.ext
        replace hGp := hGp.ext hn1_9.ext
        have o1_9 := hn1_9.own
        refine ⟨fun _ _ => (Bks.cons ho.blk (Bks.cons o0_0.blk Bks.nil)), ?_⟩
        refine RegD.one0 (i := 10) (by kernel_rfl) rfl rfl rfl (Does.stn ag25 rfl rfl (by first | rfl | exact ones_Is _) (by first | rfl | (simp [*]; done)) o1_9 (by first | decide | (simp; done) | (simp; omega) | omega)) ?_
        rintro _ H1_10 hu1_10
        have z1_10 := hu1_10.size
        replace hE := hE.upw hu1_10 (by omega)
        replace ho := ho.upw hu1_10 (by omega)
        replace o0_0 := o0_0.upw hu1_10 (by omega)
        replace o0_1 := o0_1.upw hu1_10 (by omega)
        replace hGp := hGp.upw hu1_10 (by omega)
        replace o1_9 := hu1_10.own
        first | rw [over (by first | rfl | (simp; done))] at o1_9 | skip
        refine ⟨fun h => (by cases h), ?_⟩
        refine RegD.tpur (i := 11) rfl rfl rfl rfl (by kernel_rfl) (Pur.asg rfl) ?_
        refine RegD.done (by kernel_rfl) ?_
        exact ⟨(_, Ap, cp), ⟨o1_9, hGp.mono (by omega), hNp, hlp, ho, o0_1, hE, by omega⟩, ⟨rfl, rfl, rfl, rfl, trivial⟩⟩
      refine RegOp.one (i := 9) rfl rfl rfl rfl (Does.alloc zc25) ?_
      rintro _ H1_9 ⟨rfl, hn1_9⟩
      have z1_9 := hn1_9.size
      replace hE := hE.ext hn1_9.ext
      replace ho := ho.ext hn1_9.ext
      replace o0_0 := o0_0.ext hn1_9.ext
      replace o0_1 := o0_1.ext hn1_9.ext
      have o1_9 := hn1_9.own
      refine ⟨fun _ _ => (Bks.cons ho.blk (Bks.cons o0_0.blk Bks.nil)), ?_⟩
      refine RegD.one (i := 5) (by kernel_rfl) rfl rfl rfl rfl (Does.call rfl (typeOf_ok (h.bds.ext hE) (bds256 h) (hS1.ext hE) h9a hMa)) ?_
      rintro v1_5 H1_5 ⟨hE1_5, hT0⟩
      have z1_5 := hE1_5.lt
      replace hE := hE.ext hE1_5
      replace ho := ho.ext hE1_5
      replace o0_0 := o0_0.ext hE1_5
      replace o0_1 := o0_1.ext hE1_5
      replace o1_9 := o1_9.ext hE1_5
      rw [hqa] at hT0
      obtain ⟨Ap, cp, rfl, hGp, hNp, hlp⟩ := hT0.oe
      clear hT0
      have z_hGp := hGp.lt
      refine ⟨fun h => (by cases h), ?_⟩
      refine RegD.tpur (i := 6) rfl rfl rfl rfl (by kernel_rfl) (Pur.mv rfl) ?_
      refine RegD.tpur (i := 7) rfl rfl rfl rfl (by kernel_rfl) (Pur.ext rfl rfl) ?_
      refine RegD.tpur (i := 8) rfl rfl rfl rfl (by kernel_rfl) (Pur.ext rfl rfl) ?_
      refine RegD.one0 (i := 10) (by kernel_rfl) rfl rfl rfl (Does.stn ag25 rfl rfl (by first | rfl | exact ones_Is _) (by first | rfl | (simp [*]; done)) o1_9 (by first | decide | (simp; done) | (simp; omega) | omega)) ?_
      rintro _ H1_10 hu1_10
      have z1_10 := hu1_10.size
      replace hE := hE.upw hu1_10 (by omega)
      replace ho := ho.upw hu1_10 (by omega)
      replace o0_0 := o0_0.upw hu1_10 (by omega)
      replace o0_1 := o0_1.upw hu1_10 (by omega)
      replace hGp := hGp.upw hu1_10 (by omega)
      replace o1_9 := hu1_10.own
      first | rw [over (by first | rfl | (simp; done))] at o1_9 | skip
      refine ⟨fun h => (by cases h), ?_⟩
      refine RegD.tpur (i := 11) rfl rfl rfl rfl (by kernel_rfl) (Pur.asg rfl) ?_
      refine RegD.done (by kernel_rfl) ?_
      exact ⟨(_, Ap, cp), ⟨o1_9, hGp.mono (by omega), hNp, hlp, ho, o0_1, hE, by omega⟩, ⟨rfl, rfl, rfl, rfl, trivial⟩⟩
    have ho0 := ho.lt
    clear o0_0 o0_1 hE ho hS1 hqa h9a hMa
    obtain ⟨b6, Ap, cp⟩ := s
    obtain ⟨o6, hGp, hNp, hlp, ho, o0_1, hE, hb6⟩ := hs
    have z_hE := hE.lt
    have z_ho := ho.lt
    have z_o6 := o6.lt
    have z_hGp := hGp.lt
    have z_o0_1 := o0_1.lt
    refine At.drawJ (σ := Nat × Option Addr × Nat) (fun (b8, Aq, cq) => [(8, ptr b8 0), (9, .bool (tys us.1 b).isSome), (6, ptr b6 0), (7, .bool (tys us.1 a).isSome), (0, ptr sb 0)]) (fun (b8, Aq, cq) H' => Own H' b8 [.slice Aq (encO (tys us.1 b)).length cq] ∧ Gs H' H.size 47 9 Aq cq (encO (tys us.1 b)).length ((encO (tys us.1 b)).flatMap Is) ∧ Nine (encO (tys us.1 b)) ∧ (encO (tys us.1 b)).length ≤ 256 ∧ Own H' sb [.slice A Bs.length cap, I us.2, I 0] ∧ Own H' b6 [.slice Ap (encO (tys us.1 a)).length cp] ∧ Gs H' H.size 47 9 Ap cp (encO (tys us.1 a)).length ((encO (tys us.1 a)).flatMap Is) ∧ Ext H H' ∧ H.size ≤ b8) ((Bks.cons ho.blk (Bks.cons o0_1.blk Bks.nil))) [5, 10] mixed rfl rfl ?_ (fun s H_r2 hs => ?_)
    · refine RegD.tpur (i := 0) rfl rfl rfl rfl (by kernel_rfl) (Pur.mv rfl) ?_
      refine RegD.tpur (i := 1) rfl rfl rfl rfl (by kernel_rfl) (Pur.nilc rfl) ?_
      refine RegD.tpur (i := 2) rfl rfl rfl rfl (by kernel_rfl) (Pur.fld _ fo127_0 rfl) ?_
      refine RegD.take (i := 3) rfl rfl rfl rfl (by kernel_rfl) (Bks.cons ho.blk (Bks.cons o0_1.blk Bks.nil)) (fun H hS => Lod.ld sc22 rfl hS.hd rfl) ?_
      refine RegD.take (i := 4) rfl rfl rfl rfl (by kernel_rfl) (Bks.cons ho.blk (Bks.cons o0_1.blk Bks.nil)) (fun H hS => Lod.ldn ag25 rfl hS.tl.hd (whole rfl) rfl) ?_
      refine RegD.fork2 (i := 5) (j := 9) (by kernel_rfl) ?_ ?_
      · refine RegOp.one (i := 5) rfl rfl rfl rfl (Does.call rfl (typeOf_ok (h.bds.ext hE) (bds256 h) (hS2.ext hE) h9b hMb)) ?_
        rintro v2_5 H2_5 ⟨hE2_5, hT0⟩
        have z2_5 := hE2_5.lt
        replace hE := hE.ext hE2_5
        replace ho := ho.ext hE2_5
        replace o6 := o6.ext hE2_5
        replace hGp := hGp.ext hE2_5
        replace o0_1 := o0_1.ext hE2_5
        rw [hqb] at hT0
        obtain ⟨Aq, cq, rfl, hGq, hNq, hlq⟩ := hT0.oe
        clear hT0
        have z_hGq := hGq.lt
        refine ⟨fun h => (by cases h), ?_⟩
        refine RegD.tpur (i := 6) rfl rfl rfl rfl (by kernel_rfl) (Pur.mv rfl) ?_
        refine RegD.tpur (i := 7) rfl rfl rfl rfl (by kernel_rfl) (Pur.ext rfl rfl) ?_
        refine RegD.tpur (i := 8) rfl rfl rfl rfl (by kernel_rfl) (Pur.ext rfl rfl) ?_
        refine RegD.one (i := 9) (by kernel_rfl) rfl rfl rfl rfl (Does.alloc zc25) ?_
        rintro _ H2_9 ⟨rfl, hn2_9⟩
        have z2_9 := hn2_9.size
        replace hE := hE.ext hn2_9.ext
        replace ho := ho.ext hn2_9.ext
        replace o6 := o6.ext hn2_9.ext
        replace hGp := hGp.ext hn2_9.ext
        replace o0_1 := o0_1.ext hn2_9.ext
        replace hGq := hGq.ext hn2_9.ext
        have o2_9 := hn2_9.own
        refine ⟨fun _ _ => (Bks.cons ho.blk (Bks.cons o0_1.blk Bks.nil)), ?_⟩
        refine RegD.one0 (i := 10) (by kernel_rfl) rfl rfl rfl (Does.stn ag25 rfl rfl (by first | rfl | exact ones_Is _) (by first | rfl | (simp [*]; done)) o2_9 (by first | decide | (simp; done) | (simp; omega) | omega)) ?_
        rintro _ H2_10 hu2_10
        have z2_10 := hu2_10.size
        replace hE := hE.upw hu2_10 (by omega)
        replace ho := ho.upw hu2_10 (by omega)
        replace o6 := o6.upw hu2_10 (by omega)
        replace hGp := hGp.upw hu2_10 (by omega)
        replace o0_1 := o0_1.upw hu2_10 (by omega)
        replace hGq := hGq.upw hu2_10 (by omega)
        replace o2_9 := hu2_10.own
        first | rw [over (by first | rfl | (simp; done))] at o2_9 | skip
        refine ⟨fun h => (by cases h), ?_⟩
        refine RegD.tpur (i := 11) rfl rfl rfl rfl (by kernel_rfl) (Pur.asg rfl) ?_
        refine RegD.done (by kernel_rfl) ?_
        exact ⟨(_, Aq, cq), ⟨o2_9, hGq.mono (by omega), hNq, hlq, ho, o6, hGp, hE, by omega⟩, ⟨rfl, rfl, rfl, rfl, rfl, trivial⟩⟩
      refine RegOp.one (i := 9) rfl rfl rfl rfl (Does.alloc zc25) ?_
      rintro _ H2_9 ⟨rfl, hn2_9⟩
      have z2_9 := hn2_9.size
      replace hE := hE.ext hn2_9.ext
      replace ho := ho.ext hn2_9.ext
      replace o6 := o6.ext hn2_9.ext
      replace hGp := hGp.ext hn2_9.ext
      replace o0_1 := o0_1.ext hn2_9.ext
      have o2_9 := hn2_9.own
      refine ⟨fun _ _ => (Bks.cons ho.blk (Bks.cons o0_1.blk Bks.nil)), ?_⟩
      refine RegD.one (i := 5) (by kernel_rfl) rfl rfl rfl rfl (Does.call rfl (typeOf_ok (h.bds.ext hE) (bds256 h) (hS2.ext hE) h9b hMb)) ?_
      rintro v2_5 H2_5 ⟨hE2_5, hT0⟩
      have z2_5 := hE2_5.lt
      replace hE := hE.ext hE2_5
      replace ho := ho.ext hE2_5
      replace o6 := o6.ext hE2_5
      replace hGp := hGp.ext hE2_5
      replace o0_1 := o0_1.ext hE2_5
      replace o2_9 := o2_9.ext hE2_5
      rw [hqb] at hT0
      obtain ⟨Aq, cq, rfl, hGq, hNq, hlq⟩ := hT0.oe
      clear hT0
      have z_hGq := hGq.lt
      refine ⟨fun h => (by cases h), ?_⟩
      refine RegD.tpur (i := 6) rfl rfl rfl rfl (by kernel_rfl) (Pur.mv rfl) ?_
      refine RegD.tpur (i := 7) rfl rfl rfl rfl (by kernel_rfl) (Pur.ext rfl rfl) ?_
      refine RegD.tpur (i := 8) rfl rfl rfl rfl (by kernel_rfl) (Pur.ext rfl rfl) ?_
      refine RegD.one0 (i := 10) (by kernel_rfl) rfl rfl rfl (Does.stn ag25 rfl rfl (by first | rfl | exact ones_Is _) (by first | rfl | (simp [*]; done)) o2_9 (by first | decide | (simp; done) | (simp; omega) | omega)) ?_
      rintro _ H2_10 hu2_10
      have z2_10 := hu2_10.size
      replace hE := hE.upw hu2_10 (by omega)
      replace ho := ho.upw hu2_10 (by omega)
      replace o6 := o6.upw hu2_10 (by omega)
      replace hGp := hGp.upw hu2_10 (by omega)
      replace o0_1 := o0_1.upw hu2_10 (by omega)
      replace hGq := hGq.upw hu2_10 (by omega)
      replace o2_9 := hu2_10.own
      first | rw [over (by first | rfl | (simp; done))] at o2_9 | skip
      refine ⟨fun h => (by cases h), ?_⟩
      refine RegD.tpur (i := 11) rfl rfl rfl rfl (by kernel_rfl) (Pur.asg rfl) ?_
      refine RegD.done (by kernel_rfl) ?_
      exact ⟨(_, Aq, cq), ⟨o2_9, hGq.mono (by omega), hNq, hlq, ho, o6, hGp, hE, by omega⟩, ⟨rfl, rfl, rfl, rfl, rfl, trivial⟩⟩
    clear o6 hGp o0_1 hE ho hS2 hqb h9b hMb
    obtain ⟨b8, Aq, cq⟩ := s
    obtain ⟨o8, hGq, hNq, hlq, ho, o6, hGp, hE, hb8⟩ := hs
    have z_hE := hE.lt
    have z_ho := ho.lt
    have z_o6 := o6.lt
    have z_o8 := o8.lt
    have z_hGp := hGp.lt
    have z_hGq := hGq.lt
    refine At.region rfl rfl ?_
    refine Reg.pur rfl rfl rfl rfl (Pur.mv rfl) ?_
    refine Reg.pur rfl rfl rfl rfl (Pur.not rfl) ?_
    refine Reg.pur rfl rfl rfl rfl (Pur.mv rfl) ?_
    refine Reg.case 36 rfl (fun q36 => ?_) (fun q36 => ?_)
    · first | (simp only [decide_eq_true_eq, decide_eq_false_iff_not, Bool.not_eq_true', Bool.not_eq_false', ne_eq, Decidable.not_not, Bool.not_eq_true, Bool.not_eq_false] at q36) | (dsimp only at q36) | skip
      refine Reg.skip rfl rfl rfl rfl rfl rfl rfl ?_
      refine Reg.skip rfl rfl rfl rfl rfl rfl rfl ?_
      refine Reg.pur rfl rfl rfl rfl (Pur.pickT rfl rfl) ?_
      refine Reg.nil ?_
      refine At.condT rfl rfl rfl ?_
      refine At.region rfl rfl ?_
      refine Reg.pur rfl rfl rfl rfl (Pur.mv rfl) ?_
      have hE4 := hE

      refine Reg.op rfl rfl rfl rfl (Does.call rfl (failR_ok ho)) ?_
      rintro _ H4_1 hu4_1
      have z4_1 := hu4_1.size
      have ho := hu4_1.own
      refine Reg.nil ?_
      refine At.region rfl rfl ?_
      refine Reg.pur rfl rfl rfl rfl (Pur.mv rfl) ?_
      refine Reg.pur rfl rfl rfl rfl (Pur.nilc rfl) ?_
      refine Reg.pur rfl rfl rfl rfl (Pur.fld _ fo127_2 rfl) ?_
      refine Reg.lod rfl rfl rfl rfl (Lod.ld sc3 rfl ho.blk rfl) ?_
      refine Reg.pur rfl rfl rfl rfl (Pur.neq rfl rfl) ?_
      refine Reg.nil ?_
      refine At.cond rfl rfl (fun q46 => ?_) (fun q46 => ?_)
      · first | (simp only [decide_eq_true_eq, decide_eq_false_iff_not, Bool.not_eq_true', Bool.not_eq_false', ne_eq, Decidable.not_not, Bool.not_eq_true, Bool.not_eq_false] at q46) | (dsimp only at q46) | skip
        refine At.ret rfl Try.func79 rfl ?_
        rw [uniU_bad (.inl (none_of q36))] at hu
        cases hu
        exact ⟨⟨_, _, ho⟩, by decide, hE4.but.trans (hu4_1.but.mono (fun b hb e => by rw [e]; exact h.lo))⟩
      first | (simp only [decide_eq_true_eq, decide_eq_false_iff_not, Bool.not_eq_true', Bool.not_eq_false', ne_eq, Decidable.not_not, Bool.not_eq_true, Bool.not_eq_false] at q46) | (dsimp only at q46) | skip
      exact absurd q46 (by decide)
    first | (simp only [decide_eq_true_eq, decide_eq_false_iff_not, Bool.not_eq_true', Bool.not_eq_false', ne_eq, Decidable.not_not, Bool.not_eq_true, Bool.not_eq_false] at q36) | (dsimp only at q36) | skip
    refine Reg.gpur rfl rfl rfl rfl rfl rfl (Pur.mv rfl) ?_
    refine Reg.gpur rfl rfl rfl rfl rfl rfl (Pur.not rfl) ?_
    refine Reg.pur rfl rfl rfl rfl (Pur.pickF rfl rfl) ?_
    refine Reg.nil ?_
    refine At.cond rfl rfl (fun q39 => ?_) (fun q39 => ?_)
    · first | (simp only [decide_eq_true_eq, decide_eq_false_iff_not, Bool.not_eq_true', Bool.not_eq_false', ne_eq, Decidable.not_not, Bool.not_eq_true, Bool.not_eq_false] at q39) | (dsimp only at q39) | skip
      refine At.region rfl rfl ?_
      refine Reg.pur rfl rfl rfl rfl (Pur.mv rfl) ?_
      have hE4 := hE

      refine Reg.op rfl rfl rfl rfl (Does.call rfl (failR_ok ho)) ?_
      rintro _ H4_1 hu4_1
      have z4_1 := hu4_1.size
      have ho := hu4_1.own
      refine Reg.nil ?_
      refine At.region rfl rfl ?_
      refine Reg.pur rfl rfl rfl rfl (Pur.mv rfl) ?_
      refine Reg.pur rfl rfl rfl rfl (Pur.nilc rfl) ?_
      refine Reg.pur rfl rfl rfl rfl (Pur.fld _ fo127_2 rfl) ?_
      refine Reg.lod rfl rfl rfl rfl (Lod.ld sc3 rfl ho.blk rfl) ?_
      refine Reg.pur rfl rfl rfl rfl (Pur.neq rfl rfl) ?_
      refine Reg.nil ?_
      refine At.cond rfl rfl (fun q46 => ?_) (fun q46 => ?_)
      · first | (simp only [decide_eq_true_eq, decide_eq_false_iff_not, Bool.not_eq_true', Bool.not_eq_false', ne_eq, Decidable.not_not, Bool.not_eq_true, Bool.not_eq_false] at q46) | (dsimp only at q46) | skip
        refine At.ret rfl Try.func79 rfl ?_
        rw [uniU_bad (.inr (none_of q39))] at hu
        cases hu
        exact ⟨⟨_, _, ho⟩, by decide, hE4.but.trans (hu4_1.but.mono (fun b hb e => by rw [e]; exact h.lo))⟩
      first | (simp only [decide_eq_true_eq, decide_eq_false_iff_not, Bool.not_eq_true', Bool.not_eq_false', ne_eq, Decidable.not_not, Bool.not_eq_true, Bool.not_eq_false] at q46) | (dsimp only at q46) | skip
      exact absurd q46 (by decide)
    first | (simp only [decide_eq_true_eq, decide_eq_false_iff_not, Bool.not_eq_true', Bool.not_eq_false', ne_eq, Decidable.not_not, Bool.not_eq_true, Bool.not_eq_false] at q39) | (dsimp only at q39) | skip
    refine At.region rfl rfl ?_
    refine Reg.pur rfl rfl rfl rfl (Pur.mv rfl) ?_
    refine Reg.pur rfl rfl rfl rfl (Pur.nilc rfl) ?_
    refine Reg.pur rfl rfl rfl rfl (Pur.fld _ fo127_2 rfl) ?_
    refine Reg.lod rfl rfl rfl rfl (Lod.ld sc3 rfl ho.blk rfl) ?_
    refine Reg.pur rfl rfl rfl rfl (Pur.neq rfl rfl) ?_
    refine Reg.nil ?_
    refine At.cond rfl rfl (fun q46 => ?_) (fun q46 => ?_)
    · first | (simp only [decide_eq_true_eq, decide_eq_false_iff_not, Bool.not_eq_true', Bool.not_eq_false', ne_eq, Decidable.not_not, Bool.not_eq_true, Bool.not_eq_false] at q46) | (dsimp only at q46) | skip
      exact (q46 trivial).elim
    first | (simp only [decide_eq_true_eq, decide_eq_false_iff_not, Bool.not_eq_true', Bool.not_eq_false', ne_eq, Decidable.not_not, Bool.not_eq_true, Bool.not_eq_false] at q46) | (dsimp only at q46) | skip
    obtain ⟨p, hp⟩ := some_of q36
    obtain ⟨q, hq⟩ := some_of q39
    rw [hp] at hGp hNp hlp o6
    rw [hq] at hGq hNq hlq o8
    change Gs _ _ _ _ _ _ (p.enc 0).length ((p.enc 0).flatMap Is) at hGp
    change Gs _ _ _ _ _ _ (q.enc 0).length ((q.enc 0).flatMap Is) at hGq
    change Nine (p.enc 0) at hNp
    change Nine (q.enc 0) at hNq
    change (p.enc 0).length ≤ 256 at hlp
    change (q.enc 0).length ≤ 256 at hlq
    change Own _ _ [.slice _ (p.enc 0).length _] at o6
    change Own _ _ [.slice _ (q.enc 0).length _] at o8
    obtain ⟨hsp, hpz⟩ := tys_sub hp
    obtain ⟨hsq, hqz⟩ := tys_sub hq
    have hpo := sub_ok hG.inv.ok ha hsp
    have hqo := sub_ok hG.inv.ok hb hsq
    obtain ⟨hpl, hpr⟩ := sub_low hG.invR hG.f0 hla hsp
    obtain ⟨hql, hqr⟩ := sub_low hG.invR hG.f0 hlb hsq
    have hpn := p.enc_len 0
    have hqn := q.enc_len 0
    have hp1 := p.sz_pos
    have hq1 := q.sz_pos
    have hxp := lst_nine hpo
    have hxq := lst_nine hqo
    have hrp := fun H' (hS : SlT H' Is 9 (.slice Ap (p.enc 0).length cp) (p.enc 0)) => rootR_ok hNp hS hlp (by omega)
    have hrq := fun H' (hS : SlT H' Is 9 (.slice Aq (q.enc 0).length cq) (q.enc 0)) => rootR_ok hNq hS hlq (by omega)
    rw [lst_el] at hrp hrq
    refine At.drawJ (σ := Nat × Nat) (fun (b10, b11) => [(10, ptr b10 0), (11, ptr b11 0), (8, ptr b8 0), (6, ptr b6 0), (0, ptr sb 0)]) (fun (b10, b11) H' => Own H' b10 (Is p.lst) ∧ Own H' b11 (Is q.lst) ∧ Own H' b6 [.slice Ap (p.enc 0).length cp] ∧ Own H' b8 [.slice Aq (q.enc 0).length cq] ∧ Own H' sb [.slice A Bs.length cap, I us.2, I 0] ∧ Gs H' H.size 47 9 Ap cp (p.enc 0).length ((p.enc 0).flatMap Is) ∧ Gs H' H.size 47 9 Aq cq (q.enc 0).length ((q.enc 0).flatMap Is) ∧ Ext H H' ∧ H.size ≤ b10 ∧ H.size ≤ b11) ((Bks.cons o6.blk (Bks.cons o8.blk Bks.nil))) [7] mixed rfl rfl ?_ (fun s H_r6 hs => ?_)
    · refine RegD.take (i := 0) rfl rfl rfl rfl (by kernel_rfl) (Bks.cons o6.blk (Bks.cons o8.blk Bks.nil)) (fun H hS => Lod.ldn ag25 rfl hS.hd (whole rfl) rfl) ?_
      refine RegD.take (i := 2) rfl rfl rfl rfl (by kernel_rfl) (Bks.cons o6.blk (Bks.cons o8.blk Bks.nil)) (fun H hS => Lod.ldn ag25 rfl hS.tl.hd (whole rfl) rfl) ?_
      refine RegD.fork3 (i := 1) (j := 4) (k := 5) (by kernel_rfl) ?_ ?_ ?_
      · refine RegOp.one (i := 1) rfl rfl rfl rfl (Does.call rfl (hrp _ (own_sl (wide9 hNp) (by decide) hGp))) ?_
        rintro _ H6_1 ⟨rfl, hE6_1⟩
        have z6_1 := hE6_1.lt
        replace hE := hE.ext hE6_1
        replace ho := ho.ext hE6_1
        replace o6 := o6.ext hE6_1
        replace o8 := o8.ext hE6_1
        replace hGp := hGp.ext hE6_1
        replace hGq := hGq.ext hE6_1
        refine ⟨fun _ _ => (Bks.cons o6.blk (Bks.cons o8.blk Bks.nil)), ?_⟩
        refine RegD.fork3 (i := 3) (j := 4) (k := 5) (by kernel_rfl) ?_ ?_ ?_
        · refine RegOp.one (i := 3) rfl rfl rfl rfl (Does.call rfl (hrq _ (own_sl (wide9 hNq) (by decide) hGq))) ?_
          rintro _ H6_3 ⟨rfl, hE6_3⟩
          have z6_3 := hE6_3.lt
          replace hE := hE.ext hE6_3
          replace ho := ho.ext hE6_3
          replace o6 := o6.ext hE6_3
          replace o8 := o8.ext hE6_3
          replace hGp := hGp.ext hE6_3
          replace hGq := hGq.ext hE6_3
          refine ⟨fun _ _ => (Bks.cons o6.blk (Bks.cons o8.blk Bks.nil)), ?_⟩
          refine RegD.fork2 (i := 4) (j := 5) (by kernel_rfl) ?_ ?_
          · refine RegOp.one (i := 4) rfl rfl rfl rfl (Does.alloc zc47) ?_
            rintro _ H6_4 ⟨rfl, hn6_4⟩
            have z6_4 := hn6_4.size
            replace hE := hE.ext hn6_4.ext
            replace ho := ho.ext hn6_4.ext
            replace o6 := o6.ext hn6_4.ext
            replace o8 := o8.ext hn6_4.ext
            replace hGp := hGp.ext hn6_4.ext
            replace hGq := hGq.ext hn6_4.ext
            have o6_4 := hn6_4.own
            refine ⟨fun _ _ => (Bks.cons o6.blk (Bks.cons o8.blk Bks.nil)), ?_⟩
            refine RegD.one (i := 5) (by kernel_rfl) rfl rfl rfl rfl (Does.alloc zc47) ?_
            rintro _ H6_5 ⟨rfl, hn6_5⟩
            have z6_5 := hn6_5.size
            replace hE := hE.ext hn6_5.ext
            replace ho := ho.ext hn6_5.ext
            replace o6 := o6.ext hn6_5.ext
            replace o8 := o8.ext hn6_5.ext
            replace hGp := hGp.ext hn6_5.ext
            replace hGq := hGq.ext hn6_5.ext
            replace o6_4 := o6_4.ext hn6_5.ext
            have o6_5 := hn6_5.own
            refine ⟨fun _ _ => (Bks.cons o6.blk (Bks.cons o8.blk Bks.nil)), ?_⟩
            refine RegD.one0 (i := 6) (by kernel_rfl) rfl rfl rfl (Does.stn ag47 rfl rfl (ones_Is _) (by rw [List.length_map]; exact hxp) o6_4 (Nat.le_refl _)) ?_
            rintro _ H6_6 hu6_6
            have z6_6 := hu6_6.size
            replace hE := hE.upw hu6_6 (by omega)
            replace ho := ho.upw hu6_6 (by omega)
            replace o6 := o6.upw hu6_6 (by omega)
            replace o8 := o8.upw hu6_6 (by omega)
            replace hGp := hGp.upw hu6_6 (by omega)
            replace hGq := hGq.upw hu6_6 (by omega)
            replace o6_5 := o6_5.upw hu6_6 (by omega)
            replace o6_4 := hu6_6.own
            first | rw [over (by first | rfl | (simp; done))] at o6_4 | skip
            replace o6_4 := o6_4.of (c' := Is p.lst) (by simp)
            refine ⟨fun _ _ => (Bks.cons o6.blk (Bks.cons o8.blk Bks.nil)), ?_⟩
            refine RegD.one0 (i := 7) (by kernel_rfl) rfl rfl rfl (Does.stn ag47 rfl rfl (ones_Is _) (by rw [List.length_map]; exact hxq) o6_5 (Nat.le_refl _)) ?_
            rintro _ H6_7 hu6_7
            have z6_7 := hu6_7.size
            replace hE := hE.upw hu6_7 (by omega)
            replace ho := ho.upw hu6_7 (by omega)
            replace o6 := o6.upw hu6_7 (by omega)
            replace o8 := o8.upw hu6_7 (by omega)
            replace hGp := hGp.upw hu6_7 (by omega)
            replace hGq := hGq.upw hu6_7 (by omega)
            replace o6_4 := o6_4.upw hu6_7 (by omega)
            replace o6_5 := hu6_7.own
            first | rw [over (by first | rfl | (simp; done))] at o6_5 | skip
            replace o6_5 := o6_5.of (c' := Is q.lst) (by simp)
            refine ⟨fun h => (by cases h), ?_⟩
            refine RegD.done (by kernel_rfl) ?_
            exact ⟨(_, _), ⟨o6_4, o6_5, o6, o8, ho, hGp, hGq, hE, by omega, by omega⟩, ⟨rfl, rfl, rfl, rfl, rfl, trivial⟩⟩
          refine RegOp.one (i := 5) rfl rfl rfl rfl (Does.alloc zc47) ?_
          rintro _ H6_5 ⟨rfl, hn6_5⟩
          have z6_5 := hn6_5.size
          replace hE := hE.ext hn6_5.ext
          replace ho := ho.ext hn6_5.ext
          replace o6 := o6.ext hn6_5.ext
          replace o8 := o8.ext hn6_5.ext
          replace hGp := hGp.ext hn6_5.ext
          replace hGq := hGq.ext hn6_5.ext
          have o6_5 := hn6_5.own
          refine ⟨fun _ _ => (Bks.cons o6.blk (Bks.cons o8.blk Bks.nil)), ?_⟩
          refine RegD.one (i := 4) (by kernel_rfl) rfl rfl rfl rfl (Does.alloc zc47) ?_
          rintro _ H6_4 ⟨rfl, hn6_4⟩
          have z6_4 := hn6_4.size
          replace hE := hE.ext hn6_4.ext
          replace ho := ho.ext hn6_4.ext
          replace o6 := o6.ext hn6_4.ext
          replace o8 := o8.ext hn6_4.ext
          replace hGp := hGp.ext hn6_4.ext
          replace hGq := hGq.ext hn6_4.ext
          replace o6_5 := o6_5.ext hn6_4.ext
          have o6_4 := hn6_4.own
          refine ⟨fun _ _ => (Bks.cons o6.blk (Bks.cons o8.blk Bks.nil)), ?_⟩
          refine RegD.one0 (i := 6) (by kernel_rfl) rfl rfl rfl (Does.stn ag47 rfl rfl (ones_Is _) (by rw [List.length_map]; exact hxp) o6_4 (Nat.le_refl _)) ?_
          rintro _ H6_6 hu6_6
          have z6_6 := hu6_6.size
          replace hE := hE.upw hu6_6 (by omega)
          replace ho := ho.upw hu6_6 (by omega)
          replace o6 := o6.upw hu6_6 (by omega)
          replace o8 := o8.upw hu6_6 (by omega)
          replace hGp := hGp.upw hu6_6 (by omega)
          replace hGq := hGq.upw hu6_6 (by omega)
          replace o6_5 := o6_5.upw hu6_6 (by omega)
          replace o6_4 := hu6_6.own
          first | rw [over (by first | rfl | (simp; done))] at o6_4 | skip
          replace o6_4 := o6_4.of (c' := Is p.lst) (by simp)
          refine ⟨fun _ _ => (Bks.cons o6.blk (Bks.cons o8.blk Bks.nil)), ?_⟩
          refine RegD.one0 (i := 7) (by kernel_rfl) rfl rfl rfl (Does.stn ag47 rfl rfl (ones_Is _) (by rw [List.length_map]; exact hxq) o6_5 (Nat.le_refl _)) ?_
          rintro _ H6_7 hu6_7
          have z6_7 := hu6_7.size
          replace hE := hE.upw hu6_7 (by omega)
          replace ho := ho.upw hu6_7 (by omega)
          replace o6 := o6.upw hu6_7 (by omega)
          replace o8 := o8.upw hu6_7 (by omega)
          replace hGp := hGp.upw hu6_7 (by omega)
          replace hGq := hGq.upw hu6_7 (by omega)
          replace o6_4 := o6_4.upw hu6_7 (by omega)
          replace o6_5 := hu6_7.own
          first | rw [over (by first | rfl | (simp; done))] at o6_5 | skip
          replace o6_5 := o6_5.of (c' := Is q.lst) (by simp)
          refine ⟨fun h => (by cases h), ?_⟩
          refine RegD.done (by kernel_rfl) ?_
          exact ⟨(_, _), ⟨o6_4, o6_5, o6, o8, ho, hGp, hGq, hE, by omega, by omega⟩, ⟨rfl, rfl, rfl, rfl, rfl, trivial⟩⟩
        · refine RegOp.one (i := 4) rfl rfl rfl rfl (Does.alloc zc47) ?_
          rintro _ H6_4 ⟨rfl, hn6_4⟩
          have z6_4 := hn6_4.size
          replace hE := hE.ext hn6_4.ext
          replace ho := ho.ext hn6_4.ext
          replace o6 := o6.ext hn6_4.ext
          replace o8 := o8.ext hn6_4.ext
          replace hGp := hGp.ext hn6_4.ext
          replace hGq := hGq.ext hn6_4.ext
          have o6_4 := hn6_4.own
          refine ⟨fun _ _ => (Bks.cons o6.blk (Bks.cons o8.blk Bks.nil)), ?_⟩
          refine RegD.fork2 (i := 3) (j := 5) (by kernel_rfl) ?_ ?_
          · refine RegOp.one (i := 3) rfl rfl rfl rfl (Does.call rfl (hrq _ (own_sl (wide9 hNq) (by decide) hGq))) ?_
            rintro _ H6_3 ⟨rfl, hE6_3⟩
            have z6_3 := hE6_3.lt
            replace hE := hE.ext hE6_3
            replace ho := ho.ext hE6_3
            replace o6 := o6.ext hE6_3
            replace o8 := o8.ext hE6_3
            replace hGp := hGp.ext hE6_3
            replace hGq := hGq.ext hE6_3
            replace o6_4 := o6_4.ext hE6_3
            refine ⟨fun _ _ => (Bks.cons o6.blk (Bks.cons o8.blk Bks.nil)), ?_⟩
            refine RegD.one (i := 5) (by kernel_rfl) rfl rfl rfl rfl (Does.alloc zc47) ?_
            rintro _ H6_5 ⟨rfl, hn6_5⟩
            have z6_5 := hn6_5.size
            replace hE := hE.ext hn6_5.ext
            replace ho := ho.ext hn6_5.ext
            replace o6 := o6.ext hn6_5.ext
            replace o8 := o8.ext hn6_5.ext
            replace hGp := hGp.ext hn6_5.ext
            replace hGq := hGq.ext hn6_5.ext
            replace o6_4 := o6_4.ext hn6_5.ext
            have o6_5 := hn6_5.own
            refine ⟨fun _ _ => (Bks.cons o6.blk (Bks.cons o8.blk Bks.nil)), ?_⟩
            refine RegD.one0 (i := 6) (by kernel_rfl) rfl rfl rfl (Does.stn ag47 rfl rfl (ones_Is _) (by rw [List.length_map]; exact hxp) o6_4 (Nat.le_refl _)) ?_
            rintro _ H6_6 hu6_6
            have z6_6 := hu6_6.size
            replace hE := hE.upw hu6_6 (by omega)
            replace ho := ho.upw hu6_6 (by omega)
            replace o6 := o6.upw hu6_6 (by omega)
            replace o8 := o8.upw hu6_6 (by omega)
            replace hGp := hGp.upw hu6_6 (by omega)
            replace hGq := hGq.upw hu6_6 (by omega)
            replace o6_5 := o6_5.upw hu6_6 (by omega)
            replace o6_4 := hu6_6.own
            first | rw [over (by first | rfl | (simp; done))] at o6_4 | skip
            replace o6_4 := o6_4.of (c' := Is p.lst) (by simp)
            refine ⟨fun _ _ => (Bks.cons o6.blk (Bks.cons o8.blk Bks.nil)), ?_⟩
            refine RegD.one0 (i := 7) (by kernel_rfl) rfl rfl rfl (Does.stn ag47 rfl rfl (ones_Is _) (by rw [List.length_map]; exact hxq) o6_5 (Nat.le_refl _)) ?_
            rintro _ H6_7 hu6_7
            have z6_7 := hu6_7.size
            replace hE := hE.upw hu6_7 (by omega)
            replace ho := ho.upw hu6_7 (by omega)
            replace o6 := o6.upw hu6_7 (by omega)
            replace o8 := o8.upw hu6_7 (by omega)
            replace hGp := hGp.upw hu6_7 (by omega)
            replace hGq := hGq.upw hu6_7 (by omega)
            replace o6_4 := o6_4.upw hu6_7 (by omega)
            replace o6_5 := hu6_7.own
            first | rw [over (by first | rfl | (simp; done))] at o6_5 | skip
            replace o6_5 := o6_5.of (c' := Is q.lst) (by simp)
            refine ⟨fun h => (by cases h), ?_⟩
            refine RegD.done (by kernel_rfl) ?_
            exact ⟨(_, _), ⟨o6_4, o6_5, o6, o8, ho, hGp, hGq, hE, by omega, by omega⟩, ⟨rfl, rfl, rfl, rfl, rfl, trivial⟩⟩
          refine RegOp.one (i := 5) rfl rfl rfl rfl (Does.alloc zc47) ?_
          rintro _ H6_5 ⟨rfl, hn6_5⟩
          have z6_5 := hn6_5.size
          replace hE := hE.ext hn6_5.ext
          replace ho := ho.ext hn6_5.ext
          replace o6 := o6.ext hn6_5.ext
          replace o8 := o8.ext hn6_5.ext
          replace hGp := hGp.ext hn6_5.ext
          replace hGq := hGq.ext hn6_5.ext
          replace o6_4 := o6_4.ext hn6_5.ext
          have o6_5 := hn6_5.own
          refine ⟨fun _ _ => (Bks.cons o6.blk (Bks.cons o8.blk Bks.nil)), ?_⟩
          refine RegD.one (i := 3) (by kernel_rfl) rfl rfl rfl rfl (Does.call rfl (hrq _ (own_sl (wide9 hNq) (by decide) hGq))) ?_
          rintro _ H6_3 ⟨rfl, hE6_3⟩
          have z6_3 := hE6_3.lt
          replace hE := hE.ext hE6_3
          replace ho := ho.ext hE6_3
          replace o6 := o6.ext hE6_3
          replace o8 := o8.ext hE6_3
          replace hGp := hGp.ext hE6_3
          replace hGq := hGq.ext hE6_3
          replace o6_4 := o6_4.ext hE6_3
          replace o6_5 := o6_5.ext hE6_3
          refine ⟨fun _ _ => (Bks.cons o6.blk (Bks.cons o8.blk Bks.nil)), ?_⟩
          refine RegD.one0 (i := 6) (by kernel_rfl) rfl rfl rfl (Does.stn ag47 rfl rfl (ones_Is _) (by rw [List.length_map]; exact hxp) o6_4 (Nat.le_refl _)) ?_
          rintro _ H6_6 hu6_6
          have z6_6 := hu6_6.size
          replace hE := hE.upw hu6_6 (by omega)
          replace ho := ho.upw hu6_6 (by omega)
          replace o6 := o6.upw hu6_6 (by omega)
          replace o8 := o8.upw hu6_6 (by omega)
          replace hGp := hGp.upw hu6_6 (by omega)
          replace hGq := hGq.upw hu6_6 (by omega)
          replace o6_5 := o6_5.upw hu6_6 (by omega)
          replace o6_4 := hu6_6.own
          first | rw [over (by first | rfl | (simp; done))] at o6_4 | skip
          replace o6_4 := o6_4.of (c' := Is p.lst) (by simp)
          refine ⟨fun _ _ => (Bks.cons o6.blk (Bks.cons o8.blk Bks.nil)), ?_⟩
          refine RegD.one0 (i := 7) (by kernel_rfl) rfl rfl rfl (Does.stn ag47 rfl rfl (ones_Is _) (by rw [List.length_map]; exact hxq) o6_5 (Nat.le_refl _)) ?_
          rintro _ H6_7 hu6_7
          have z6_7 := hu6_7.size
          replace hE := hE.upw hu6_7 (by omega)
          replace ho := ho.upw hu6_7 (by omega)
          replace o6 := o6.upw hu6_7 (by omega)
          replace o8 := o8.upw hu6_7 (by omega)
          replace hGp := hGp.upw hu6_7 (by omega)
          replace hGq := hGq.upw hu6_7 (by omega)
          replace o6_4 := o6_4.upw hu6_7 (by omega)
          replace o6_5 := hu6_7.own
          first | rw [over (by first | rfl | (simp; done))] at o6_5 | skip
          replace o6_5 := o6_5.of (c' := Is q.lst) (by simp)
          refine ⟨fun h => (by cases h), ?_⟩
          refine RegD.done (by kernel_rfl) ?_
          exact ⟨(_, _), ⟨o6_4, o6_5, o6, o8, ho, hGp, hGq, hE, by omega, by omega⟩, ⟨rfl, rfl, rfl, rfl, rfl, trivial⟩⟩
        refine RegOp.one (i := 5) rfl rfl rfl rfl (Does.alloc zc47) ?_
        rintro _ H6_5 ⟨rfl, hn6_5⟩
        have z6_5 := hn6_5.size
        replace hE := hE.ext hn6_5.ext
        replace ho := ho.ext hn6_5.ext
        replace o6 := o6.ext hn6_5.ext
        replace o8 := o8.ext hn6_5.ext
        replace hGp := hGp.ext hn6_5.ext
        replace hGq := hGq.ext hn6_5.ext
        have o6_5 := hn6_5.own
        refine ⟨fun _ _ => (Bks.cons o6.blk (Bks.cons o8.blk Bks.nil)), ?_⟩
        refine RegD.fork2 (i := 3) (j := 4) (by kernel_rfl) ?_ ?_
        · refine RegOp.one (i := 3) rfl rfl rfl rfl (Does.call rfl (hrq _ (own_sl (wide9 hNq) (by decide) hGq))) ?_
          rintro _ H6_3 ⟨rfl, hE6_3⟩
          have z6_3 := hE6_3.lt
          replace hE := hE.ext hE6_3
          replace ho := ho.ext hE6_3
          replace o6 := o6.ext hE6_3
          replace o8 := o8.ext hE6_3
          replace hGp := hGp.ext hE6_3
          replace hGq := hGq.ext hE6_3
          replace o6_5 := o6_5.ext hE6_3
          refine ⟨fun _ _ => (Bks.cons o6.blk (Bks.cons o8.blk Bks.nil)), ?_⟩
          refine RegD.one (i := 4) (by kernel_rfl) rfl rfl rfl rfl (Does.alloc zc47) ?_
          rintro _ H6_4 ⟨rfl, hn6_4⟩
          have z6_4 := hn6_4.size
          replace hE := hE.ext hn6_4.ext
          replace ho := ho.ext hn6_4.ext
          replace o6 := o6.ext hn6_4.ext
          replace o8 := o8.ext hn6_4.ext
          replace hGp := hGp.ext hn6_4.ext
          replace hGq := hGq.ext hn6_4.ext
          replace o6_5 := o6_5.ext hn6_4.ext
          have o6_4 := hn6_4.own
          refine ⟨fun _ _ => (Bks.cons o6.blk (Bks.cons o8.blk Bks.nil)), ?_⟩
          refine RegD.one0 (i := 6) (by kernel_rfl) rfl rfl rfl (Does.stn ag47 rfl rfl (ones_Is _) (by rw [List.length_map]; exact hxp) o6_4 (Nat.le_refl _)) ?_
          rintro _ H6_6 hu6_6
          have z6_6 := hu6_6.size
          replace hE := hE.upw hu6_6 (by omega)
          replace ho := ho.upw hu6_6 (by omega)
          replace o6 := o6.upw hu6_6 (by omega)
          replace o8 := o8.upw hu6_6 (by omega)
          replace hGp := hGp.upw hu6_6 (by omega)
          replace hGq := hGq.upw hu6_6 (by omega)
          replace o6_5 := o6_5.upw hu6_6 (by omega)
          replace o6_4 := hu6_6.own
          first | rw [over (by first | rfl | (simp; done))] at o6_4 | skip
          replace o6_4 := o6_4.of (c' := Is p.lst) (by simp)
          refine ⟨fun _ _ => (Bks.cons o6.blk (Bks.cons o8.blk Bks.nil)), ?_⟩
          refine RegD.one0 (i := 7) (by kernel_rfl) rfl rfl rfl (Does.stn ag47 rfl rfl (ones_Is _) (by rw [List.length_map]; exact hxq) o6_5 (Nat.le_refl _)) ?_
          rintro _ H6_7 hu6_7
          have z6_7 := hu6_7.size
          replace hE := hE.upw hu6_7 (by omega)
          replace ho := ho.upw hu6_7 (by omega)
          replace o6 := o6.upw hu6_7 (by omega)
          replace o8 := o8.upw hu6_7 (by omega)
          replace hGp := hGp.upw hu6_7 (by omega)
          replace hGq := hGq.upw hu6_7 (by omega)
          replace o6_4 := o6_4.upw hu6_7 (by omega)
          replace o6_5 := hu6_7.own
          first | rw [over (by first | rfl | (simp; done))] at o6_5 | skip
          replace o6_5 := o6_5.of (c' := Is q.lst) (by simp)
          refine ⟨fun h => (by cases h), ?_⟩
          refine RegD.done (by kernel_rfl) ?_
          exact ⟨(_, _), ⟨o6_4, o6_5, o6, o8, ho, hGp, hGq, hE, by omega, by omega⟩, ⟨rfl, rfl, rfl, rfl, rfl, trivial⟩⟩
        refine RegOp.one (i := 4) rfl rfl rfl rfl (Does.alloc zc47) ?_
        rintro _ H6_4 ⟨rfl, hn6_4⟩
        have z6_4 := hn6_4.size
        replace hE := hE.ext hn6_4.ext
        replace ho := ho.ext hn6_4.ext
        replace o6 := o6.ext hn6_4.ext
        replace o8 := o8.ext hn6_4.ext
        replace hGp := hGp.ext hn6_4.ext
        replace hGq := hGq.ext hn6_4.ext
        replace o6_5 := o6_5.ext hn6_4.ext
        have o6_4 := hn6_4.own
        refine ⟨fun _ _ => (Bks.cons o6.blk (Bks.cons o8.blk Bks.nil)), ?_⟩
        refine RegD.one (i := 3) (by kernel_rfl) rfl rfl rfl rfl (Does.call rfl (hrq _ (own_sl (wide9 hNq) (by decide) hGq))) ?_
        rintro _ H6_3 ⟨rfl, hE6_3⟩
        have z6_3 := hE6_3.lt
        replace hE := hE.ext hE6_3
        replace ho := ho.ext hE6_3
        replace o6 := o6.ext hE6_3
        replace o8 := o8.ext hE6_3
        replace hGp := hGp.ext hE6_3
        replace hGq := hGq.ext hE6_3
        replace o6_5 := o6_5.ext hE6_3
        replace o6_4 := o6_4.ext hE6_3
        refine ⟨fun _ _ => (Bks.cons o6.blk (Bks.cons o8.blk Bks.nil)), ?_⟩
        refine RegD.one0 (i := 6) (by kernel_rfl) rfl rfl rfl (Does.stn ag47 rfl rfl (ones_Is _) (by rw [List.length_map]; exact hxp) o6_4 (Nat.le_refl _)) ?_
        rintro _ H6_6 hu6_6
        have z6_6 := hu6_6.size
        replace hE := hE.upw hu6_6 (by omega)
        replace ho := ho.upw hu6_6 (by omega)
        replace o6 := o6.upw hu6_6 (by omega)
        replace o8 := o8.upw hu6_6 (by omega)
        replace hGp := hGp.upw hu6_6 (by omega)
        replace hGq := hGq.upw hu6_6 (by omega)
        replace o6_5 := o6_5.upw hu6_6 (by omega)
        replace o6_4 := hu6_6.own
        first | rw [over (by first | rfl | (simp; done))] at o6_4 | skip
        replace o6_4 := o6_4.of (c' := Is p.lst) (by simp)
        refine ⟨fun _ _ => (Bks.cons o6.blk (Bks.cons o8.blk Bks.nil)), ?_⟩
        refine RegD.one0 (i := 7) (by kernel_rfl) rfl rfl rfl (Does.stn ag47 rfl rfl (ones_Is _) (by rw [List.length_map]; exact hxq) o6_5 (Nat.le_refl _)) ?_
        rintro _ H6_7 hu6_7
        have z6_7 := hu6_7.size
        replace hE := hE.upw hu6_7 (by omega)
        replace ho := ho.upw hu6_7 (by omega)
        replace o6 := o6.upw hu6_7 (by omega)
        replace o8 := o8.upw hu6_7 (by omega)
        replace hGp := hGp.upw hu6_7 (by omega)
        replace hGq := hGq.upw hu6_7 (by omega)
        replace o6_4 := o6_4.upw hu6_7 (by omega)
        replace o6_5 := hu6_7.own
        first | rw [over (by first | rfl | (simp; done))] at o6_5 | skip
        replace o6_5 := o6_5.of (c' := Is q.lst) (by simp)
        refine ⟨fun h => (by cases h), ?_⟩
        refine RegD.done (by kernel_rfl) ?_
        exact ⟨(_, _), ⟨o6_4, o6_5, o6, o8, ho, hGp, hGq, hE, by omega, by omega⟩, ⟨rfl, rfl, rfl, rfl, rfl, trivial⟩⟩
      · refine RegOp.one (i := 4) rfl rfl rfl rfl (Does.alloc zc47) ?_
        rintro _ H6_4 ⟨rfl, hn6_4⟩
        have z6_4 := hn6_4.size
        replace hE := hE.ext hn6_4.ext
        replace ho := ho.ext hn6_4.ext
        replace o6 := o6.ext hn6_4.ext
        replace o8 := o8.ext hn6_4.ext
        replace hGp := hGp.ext hn6_4.ext
        replace hGq := hGq.ext hn6_4.ext
        have o6_4 := hn6_4.own
        refine ⟨fun _ _ => (Bks.cons o6.blk (Bks.cons o8.blk Bks.nil)), ?_⟩
        refine RegD.fork2 (i := 1) (j := 5) (by kernel_rfl) ?_ ?_
        · refine RegOp.one (i := 1) rfl rfl rfl rfl (Does.call rfl (hrp _ (own_sl (wide9 hNp) (by decide) hGp))) ?_
          rintro _ H6_1 ⟨rfl, hE6_1⟩
          have z6_1 := hE6_1.lt
          replace hE := hE.ext hE6_1
          replace ho := ho.ext hE6_1
          replace o6 := o6.ext hE6_1
          replace o8 := o8.ext hE6_1
          replace hGp := hGp.ext hE6_1
          replace hGq := hGq.ext hE6_1
          replace o6_4 := o6_4.ext hE6_1
          refine ⟨fun _ _ => (Bks.cons o6.blk (Bks.cons o8.blk Bks.nil)), ?_⟩
          refine RegD.fork2 (i := 3) (j := 5) (by kernel_rfl) ?_ ?_
          · refine RegOp.one (i := 3) rfl rfl rfl rfl (Does.call rfl (hrq _ (own_sl (wide9 hNq) (by decide) hGq))) ?_
            rintro _ H6_3 ⟨rfl, hE6_3⟩
            have z6_3 := hE6_3.lt
            replace hE := hE.ext hE6_3
            replace ho := ho.ext hE6_3
            replace o6 := o6.ext hE6_3
            replace o8 := o8.ext hE6_3
            replace hGp := hGp.ext hE6_3
            replace hGq := hGq.ext hE6_3
            replace o6_4 := o6_4.ext hE6_3
            refine ⟨fun _ _ => (Bks.cons o6.blk (Bks.cons o8.blk Bks.nil)), ?_⟩
            refine RegD.one (i := 5) (by kernel_rfl) rfl rfl rfl rfl (Does.alloc zc47) ?_
            rintro _ H6_5 ⟨rfl, hn6_5⟩
            have z6_5 := hn6_5.size
            replace hE := hE.ext hn6_5.ext
            replace ho := ho.ext hn6_5.ext
            replace o6 := o6.ext hn6_5.ext
            replace o8 := o8.ext hn6_5.ext
            replace hGp := hGp.ext hn6_5.ext
            replace hGq := hGq.ext hn6_5.ext
            replace o6_4 := o6_4.ext hn6_5.ext
            have o6_5 := hn6_5.own
            refine ⟨fun _ _ => (Bks.cons o6.blk (Bks.cons o8.blk Bks.nil)), ?_⟩
            refine RegD.one0 (i := 6) (by kernel_rfl) rfl rfl rfl (Does.stn ag47 rfl rfl (ones_Is _) (by rw [List.length_map]; exact hxp) o6_4 (Nat.le_refl _)) ?_
            rintro _ H6_6 hu6_6
            have z6_6 := hu6_6.size
            replace hE := hE.upw hu6_6 (by omega)
            replace ho := ho.upw hu6_6 (by omega)
            replace o6 := o6.upw hu6_6 (by omega)
            replace o8 := o8.upw hu6_6 (by omega)
            replace hGp := hGp.upw hu6_6 (by omega)
            replace hGq := hGq.upw hu6_6 (by omega)
            replace o6_5 := o6_5.upw hu6_6 (by omega)
            replace o6_4 := hu6_6.own
            first | rw [over (by first | rfl | (simp; done))] at o6_4 | skip
            replace o6_4 := o6_4.of (c' := Is p.lst) (by simp)
            refine ⟨fun _ _ => (Bks.cons o6.blk (Bks.cons o8.blk Bks.nil)), ?_⟩
            refine RegD.one0 (i := 7) (by kernel_rfl) rfl rfl rfl (Does.stn ag47 rfl rfl (ones_Is _) (by rw [List.length_map]; exact hxq) o6_5 (Nat.le_refl _)) ?_
            rintro _ H6_7 hu6_7
            have z6_7 := hu6_7.size
            replace hE := hE.upw hu6_7 (by omega)
            replace ho := ho.upw hu6_7 (by omega)
            replace o6 := o6.upw hu6_7 (by omega)
            replace o8 := o8.upw hu6_7 (by omega)
            replace hGp := hGp.upw hu6_7 (by omega)
            replace hGq := hGq.upw hu6_7 (by omega)
            replace o6_4 := o6_4.upw hu6_7 (by omega)
            replace o6_5 := hu6_7.own
            first | rw [over (by first | rfl | (simp; done))] at o6_5 | skip
            replace o6_5 := o6_5.of (c' := Is q.lst) (by simp)
            refine ⟨fun h => (by cases h), ?_⟩
            refine RegD.done (by kernel_rfl) ?_
            exact ⟨(_, _), ⟨o6_4, o6_5, o6, o8, ho, hGp, hGq, hE, by omega, by omega⟩, ⟨rfl, rfl, rfl, rfl, rfl, trivial⟩⟩
          refine RegOp.one (i := 5) rfl rfl rfl rfl (Does.alloc zc47) ?_
          rintro _ H6_5 ⟨rfl, hn6_5⟩
          have z6_5 := hn6_5.size
          replace hE := hE.ext hn6_5.ext
          replace ho := ho.ext hn6_5.ext
          replace o6 := o6.ext hn6_5.ext
          replace o8 := o8.ext hn6_5.ext
          replace hGp := hGp.ext hn6_5.ext
          replace hGq := hGq.ext hn6_5.ext
          replace o6_4 := o6_4.ext hn6_5.ext
          have o6_5 := hn6_5.own
          refine ⟨fun _ _ => (Bks.cons o6.blk (Bks.cons o8.blk Bks.nil)), ?_⟩
          refine RegD.one (i := 3) (by kernel_rfl) rfl rfl rfl rfl (Does.call rfl (hrq _ (own_sl (wide9 hNq) (by decide) hGq))) ?_
          rintro _ H6_3 ⟨rfl, hE6_3⟩
          have z6_3 := hE6_3.lt
          replace hE := hE.ext hE6_3
          replace ho := ho.ext hE6_3
          replace o6 := o6.ext hE6_3
          replace o8 := o8.ext hE6_3
          replace hGp := hGp.ext hE6_3
          replace hGq := hGq.ext hE6_3
          replace o6_4 := o6_4.ext hE6_3
          replace o6_5 := o6_5.ext hE6_3
          refine ⟨fun _ _ => (Bks.cons o6.blk (Bks.cons o8.blk Bks.nil)), ?_⟩
          refine RegD.one0 (i := 6) (by kernel_rfl) rfl rfl rfl (Does.stn ag47 rfl rfl (ones_Is _) (by rw [List.length_map]; exact hxp) o6_4 (Nat.le_refl _)) ?_
          rintro _ H6_6 hu6_6
          have z6_6 := hu6_6.size
          replace hE := hE.upw hu6_6 (by omega)
          replace ho := ho.upw hu6_6 (by omega)
          replace o6 := o6.upw hu6_6 (by omega)
          replace o8 := o8.upw hu6_6 (by omega)
          replace hGp := hGp.upw hu6_6 (by omega)
          replace hGq := hGq.upw hu6_6 (by omega)
          replace o6_5 := o6_5.upw hu6_6 (by omega)
          replace o6_4 := hu6_6.own
          first | rw [over (by first | rfl | (simp; done))] at o6_4 | skip
          replace o6_4 := o6_4.of (c' := Is p.lst) (by simp)
          refine ⟨fun _ _ => (Bks.cons o6.blk (Bks.cons o8.blk Bks.nil)), ?_⟩
          refine RegD.one0 (i := 7) (by kernel_rfl) rfl rfl rfl (Does.stn ag47 rfl rfl (ones_Is _) (by rw [List.length_map]; exact hxq) o6_5 (Nat.le_refl _)) ?_
          rintro _ H6_7 hu6_7
          have z6_7 := hu6_7.size
          replace hE := hE.upw hu6_7 (by omega)
          replace ho := ho.upw hu6_7 (by omega)
          replace o6 := o6.upw hu6_7 (by omega)
          replace o8 := o8.upw hu6_7 (by omega)
          replace hGp := hGp.upw hu6_7 (by omega)
          replace hGq := hGq.upw hu6_7 (by omega)
          replace o6_4 := o6_4.upw hu6_7 (by omega)
          replace o6_5 := hu6_7.own
          first | rw [over (by first | rfl | (simp; done))] at o6_5 | skip
          replace o6_5 := o6_5.of (c' := Is q.lst) (by simp)
          refine ⟨fun h => (by cases h), ?_⟩
          refine RegD.done (by kernel_rfl) ?_
          exact ⟨(_, _), ⟨o6_4, o6_5, o6, o8, ho, hGp, hGq, hE, by omega, by omega⟩, ⟨rfl, rfl, rfl, rfl, rfl, trivial⟩⟩
        refine RegOp.one (i := 5) rfl rfl rfl rfl (Does.alloc zc47) ?_
        rintro _ H6_5 ⟨rfl, hn6_5⟩
        have z6_5 := hn6_5.size
        replace hE := hE.ext hn6_5.ext
        replace ho := ho.ext hn6_5.ext
        replace o6 := o6.ext hn6_5.ext
        replace o8 := o8.ext hn6_5.ext
        replace hGp := hGp.ext hn6_5.ext
        replace hGq := hGq.ext hn6_5.ext
        replace o6_4 := o6_4.ext hn6_5.ext
        have o6_5 := hn6_5.own
        refine ⟨fun _ _ => (Bks.cons o6.blk (Bks.cons o8.blk Bks.nil)), ?_⟩
        refine RegD.one (i := 1) (by kernel_rfl) rfl rfl rfl rfl (Does.call rfl (hrp _ (own_sl (wide9 hNp) (by decide) hGp))) ?_
        rintro _ H6_1 ⟨rfl, hE6_1⟩
        have z6_1 := hE6_1.lt
        replace hE := hE.ext hE6_1
        replace ho := ho.ext hE6_1
        replace o6 := o6.ext hE6_1
        replace o8 := o8.ext hE6_1
        replace hGp := hGp.ext hE6_1
        replace hGq := hGq.ext hE6_1
        replace o6_4 := o6_4.ext hE6_1
        replace o6_5 := o6_5.ext hE6_1
        refine ⟨fun _ _ => (Bks.cons o6.blk (Bks.cons o8.blk Bks.nil)), ?_⟩
        refine RegD.one (i := 3) (by kernel_rfl) rfl rfl rfl rfl (Does.call rfl (hrq _ (own_sl (wide9 hNq) (by decide) hGq))) ?_
        rintro _ H6_3 ⟨rfl, hE6_3⟩
        have z6_3 := hE6_3.lt
        replace hE := hE.ext hE6_3
        replace ho := ho.ext hE6_3
        replace o6 := o6.ext hE6_3
        replace o8 := o8.ext hE6_3
        replace hGp := hGp.ext hE6_3
        replace hGq := hGq.ext hE6_3
        replace o6_4 := o6_4.ext hE6_3
        replace o6_5 := o6_5.ext hE6_3
        refine ⟨fun _ _ => (Bks.cons o6.blk (Bks.cons o8.blk Bks.nil)), ?_⟩
        refine RegD.one0 (i := 6) (by kernel_rfl) rfl rfl rfl (Does.stn ag47 rfl rfl (ones_Is _) (by rw [List.length_map]; exact hxp) o6_4 (Nat.le_refl _)) ?_
        rintro _ H6_6 hu6_6
        have z6_6 := hu6_6.size
        replace hE := hE.upw hu6_6 (by omega)
        replace ho := ho.upw hu6_6 (by omega)
        replace o6 := o6.upw hu6_6 (by omega)
        replace o8 := o8.upw hu6_6 (by omega)
        replace hGp := hGp.upw hu6_6 (by omega)
        replace hGq := hGq.upw hu6_6 (by omega)
        replace o6_5 := o6_5.upw hu6_6 (by omega)
        replace o6_4 := hu6_6.own
        first | rw [over (by first | rfl | (simp; done))] at o6_4 | skip
        replace o6_4 := o6_4.of (c' := Is p.lst) (by simp)
        refine ⟨fun _ _ => (Bks.cons o6.blk (Bks.cons o8.blk Bks.nil)), ?_⟩
        refine RegD.one0 (i := 7) (by kernel_rfl) rfl rfl rfl (Does.stn ag47 rfl rfl (ones_Is _) (by rw [List.length_map]; exact hxq) o6_5 (Nat.le_refl _)) ?_
        rintro _ H6_7 hu6_7
        have z6_7 := hu6_7.size
        replace hE := hE.upw hu6_7 (by omega)
        replace ho := ho.upw hu6_7 (by omega)
        replace o6 := o6.upw hu6_7 (by omega)
        replace o8 := o8.upw hu6_7 (by omega)
        replace hGp := hGp.upw hu6_7 (by omega)
        replace hGq := hGq.upw hu6_7 (by omega)
        replace o6_4 := o6_4.upw hu6_7 (by omega)
        replace o6_5 := hu6_7.own
        first | rw [over (by first | rfl | (simp; done))] at o6_5 | skip
        replace o6_5 := o6_5.of (c' := Is q.lst) (by simp)
        refine ⟨fun h => (by cases h), ?_⟩
        refine RegD.done (by kernel_rfl) ?_
        exact ⟨(_, _), ⟨o6_4, o6_5, o6, o8, ho, hGp, hGq, hE, by omega, by omega⟩, ⟨rfl, rfl, rfl, rfl, rfl, trivial⟩⟩
      refine RegOp.one (i := 5) rfl rfl rfl rfl (Does.alloc zc47) ?_
      rintro _ H6_5 ⟨rfl, hn6_5⟩
      have z6_5 := hn6_5.size
      replace hE := hE.ext hn6_5.ext
      replace ho := ho.ext hn6_5.ext
      replace o6 := o6.ext hn6_5.ext
      replace o8 := o8.ext hn6_5.ext
      replace hGp := hGp.ext hn6_5.ext
      replace hGq := hGq.ext hn6_5.ext
      have o6_5 := hn6_5.own
      refine ⟨fun _ _ => (Bks.cons o6.blk (Bks.cons o8.blk Bks.nil)), ?_⟩
      refine RegD.fork2 (i := 1) (j := 4) (by kernel_rfl) ?_ ?_
      · refine RegOp.one (i := 1) rfl rfl rfl rfl (Does.call rfl (hrp _ (own_sl (wide9 hNp) (by decide) hGp))) ?_
        rintro _ H6_1 ⟨rfl, hE6_1⟩
        have z6_1 := hE6_1.lt
        replace hE := hE.ext hE6_1
        replace ho := ho.ext hE6_1
        replace o6 := o6.ext hE6_1
        replace o8 := o8.ext hE6_1
        replace hGp := hGp.ext hE6_1
        replace hGq := hGq.ext hE6_1
        replace o6_5 := o6_5.ext hE6_1
        refine ⟨fun _ _ => (Bks.cons o6.blk (Bks.cons o8.blk Bks.nil)), ?_⟩
        refine RegD.fork2 (i := 3) (j := 4) (by kernel_rfl) ?_ ?_
        · refine RegOp.one (i := 3) rfl rfl rfl rfl (Does.call rfl (hrq _ (own_sl (wide9 hNq) (by decide) hGq))) ?_
          rintro _ H6_3 ⟨rfl, hE6_3⟩
          have z6_3 := hE6_3.lt
          replace hE := hE.ext hE6_3
          replace ho := ho.ext hE6_3
          replace o6 := o6.ext hE6_3
          replace o8 := o8.ext hE6_3
          replace hGp := hGp.ext hE6_3
          replace hGq := hGq.ext hE6_3
          replace o6_5 := o6_5.ext hE6_3
          refine ⟨fun _ _ => (Bks.cons o6.blk (Bks.cons o8.blk Bks.nil)), ?_⟩
          refine RegD.one (i := 4) (by kernel_rfl) rfl rfl rfl rfl (Does.alloc zc47) ?_
          rintro _ H6_4 ⟨rfl, hn6_4⟩
          have z6_4 := hn6_4.size
          replace hE := hE.ext hn6_4.ext
          replace ho := ho.ext hn6_4.ext
          replace o6 := o6.ext hn6_4.ext
          replace o8 := o8.ext hn6_4.ext
          replace hGp := hGp.ext hn6_4.ext
          replace hGq := hGq.ext hn6_4.ext
          replace o6_5 := o6_5.ext hn6_4.ext
          have o6_4 := hn6_4.own
          refine ⟨fun _ _ => (Bks.cons o6.blk (Bks.cons o8.blk Bks.nil)), ?_⟩
          refine RegD.one0 (i := 6) (by kernel_rfl) rfl rfl rfl (Does.stn ag47 rfl rfl (ones_Is _) (by rw [List.length_map]; exact hxp) o6_4 (Nat.le_refl _)) ?_
          rintro _ H6_6 hu6_6
          have z6_6 := hu6_6.size
          replace hE := hE.upw hu6_6 (by omega)
          replace ho := ho.upw hu6_6 (by omega)
          replace o6 := o6.upw hu6_6 (by omega)
          replace o8 := o8.upw hu6_6 (by omega)
          replace hGp := hGp.upw hu6_6 (by omega)
          replace hGq := hGq.upw hu6_6 (by omega)
          replace o6_5 := o6_5.upw hu6_6 (by omega)
          replace o6_4 := hu6_6.own
          first | rw [over (by first | rfl | (simp; done))] at o6_4 | skip
          replace o6_4 := o6_4.of (c' := Is p.lst) (by simp)
          refine ⟨fun _ _ => (Bks.cons o6.blk (Bks.cons o8.blk Bks.nil)), ?_⟩
          refine RegD.one0 (i := 7) (by kernel_rfl) rfl rfl rfl (Does.stn ag47 rfl rfl (ones_Is _) (by rw [List.length_map]; exact hxq) o6_5 (Nat.le_refl _)) ?_
          rintro _ H6_7 hu6_7
          have z6_7 := hu6_7.size
          replace hE := hE.upw hu6_7 (by omega)
          replace ho := ho.upw hu6_7 (by omega)
          replace o6 := o6.upw hu6_7 (by omega)
          replace o8 := o8.upw hu6_7 (by omega)
          replace hGp := hGp.upw hu6_7 (by omega)
          replace hGq := hGq.upw hu6_7 (by omega)
          replace o6_4 := o6_4.upw hu6_7 (by omega)
          replace o6_5 := hu6_7.own
          first | rw [over (by first | rfl | (simp; done))] at o6_5 | skip
          replace o6_5 := o6_5.of (c' := Is q.lst) (by simp)
          refine ⟨fun h => (by cases h), ?_⟩
          refine RegD.done (by kernel_rfl) ?_
          exact ⟨(_, _), ⟨o6_4, o6_5, o6, o8, ho, hGp, hGq, hE, by omega, by omega⟩, ⟨rfl, rfl, rfl, rfl, rfl, trivial⟩⟩
        refine RegOp.one (i := 4) rfl rfl rfl rfl (Does.alloc zc47) ?_
        rintro _ H6_4 ⟨rfl, hn6_4⟩
        have z6_4 := hn6_4.size
        replace hE := hE.ext hn6_4.ext
        replace ho := ho.ext hn6_4.ext
        replace o6 := o6.ext hn6_4.ext
        replace o8 := o8.ext hn6_4.ext
        replace hGp := hGp.ext hn6_4.ext
        replace hGq := hGq.ext hn6_4.ext
        replace o6_5 := o6_5.ext hn6_4.ext
        have o6_4 := hn6_4.own
        refine ⟨fun _ _ => (Bks.cons o6.blk (Bks.cons o8.blk Bks.nil)), ?_⟩
        refine RegD.one (i := 3) (by kernel_rfl) rfl rfl rfl rfl (Does.call rfl (hrq _ (own_sl (wide9 hNq) (by decide) hGq))) ?_
        rintro _ H6_3 ⟨rfl, hE6_3⟩
        have z6_3 := hE6_3.lt
        replace hE := hE.ext hE6_3
        replace ho := ho.ext hE6_3
        replace o6 := o6.ext hE6_3
        replace o8 := o8.ext hE6_3
        replace hGp := hGp.ext hE6_3
        replace hGq := hGq.ext hE6_3
        replace o6_5 := o6_5.ext hE6_3
        replace o6_4 := o6_4.ext hE6_3
        refine ⟨fun _ _ => (Bks.cons o6.blk (Bks.cons o8.blk Bks.nil)), ?_⟩
        refine RegD.one0 (i := 6) (by kernel_rfl) rfl rfl rfl (Does.stn ag47 rfl rfl (ones_Is _) (by rw [List.length_map]; exact hxp) o6_4 (Nat.le_refl _)) ?_
        rintro _ H6_6 hu6_6
        have z6_6 := hu6_6.size
        replace hE := hE.upw hu6_6 (by omega)
        replace ho := ho.upw hu6_6 (by omega)
        replace o6 := o6.upw hu6_6 (by omega)
        replace o8 := o8.upw hu6_6 (by omega)
        replace hGp := hGp.upw hu6_6 (by omega)
        replace hGq := hGq.upw hu6_6 (by omega)
        replace o6_5 := o6_5.upw hu6_6 (by omega)
        replace o6_4 := hu6_6.own
        first | rw [over (by first | rfl | (simp; done))] at o6_4 | skip
        replace o6_4 := o6_4.of (c' := Is p.lst) (by simp)
        refine ⟨fun _ _ => (Bks.cons o6.blk (Bks.cons o8.blk Bks.nil)), ?_⟩
        refine RegD.one0 (i := 7) (by kernel_rfl) rfl rfl rfl (Does.stn ag47 rfl rfl (ones_Is _) (by rw [List.length_map]; exact hxq) o6_5 (Nat.le_refl _)) ?_
        rintro _ H6_7 hu6_7
        have z6_7 := hu6_7.size
        replace hE := hE.upw hu6_7 (by omega)
        replace ho := ho.upw hu6_7 (by omega)
        replace o6 := o6.upw hu6_7 (by omega)
        replace o8 := o8.upw hu6_7 (by omega)
        replace hGp := hGp.upw hu6_7 (by omega)
        replace hGq := hGq.upw hu6_7 (by omega)
        replace o6_4 := o6_4.upw hu6_7 (by omega)
        replace o6_5 := hu6_7.own
        first | rw [over (by first | rfl | (simp; done))] at o6_5 | skip
        replace o6_5 := o6_5.of (c' := Is q.lst) (by simp)
        refine ⟨fun h => (by cases h), ?_⟩
        refine RegD.done (by kernel_rfl) ?_
        exact ⟨(_, _), ⟨o6_4, o6_5, o6, o8, ho, hGp, hGq, hE, by omega, by omega⟩, ⟨rfl, rfl, rfl, rfl, rfl, trivial⟩⟩
      refine RegOp.one (i := 4) rfl rfl rfl rfl (Does.alloc zc47) ?_
      rintro _ H6_4 ⟨rfl, hn6_4⟩
      have z6_4 := hn6_4.size
      replace hE := hE.ext hn6_4.ext
      replace ho := ho.ext hn6_4.ext
      replace o6 := o6.ext hn6_4.ext
      replace o8 := o8.ext hn6_4.ext
      replace hGp := hGp.ext hn6_4.ext
      replace hGq := hGq.ext hn6_4.ext
      replace o6_5 := o6_5.ext hn6_4.ext
      have o6_4 := hn6_4.own
      refine ⟨fun _ _ => (Bks.cons o6.blk (Bks.cons o8.blk Bks.nil)), ?_⟩
      refine RegD.one (i := 1) (by kernel_rfl) rfl rfl rfl rfl (Does.call rfl (hrp _ (own_sl (wide9 hNp) (by decide) hGp))) ?_
      rintro _ H6_1 ⟨rfl, hE6_1⟩
      have z6_1 := hE6_1.lt
      replace hE := hE.ext hE6_1
      replace ho := ho.ext hE6_1
      replace o6 := o6.ext hE6_1
      replace o8 := o8.ext hE6_1
      replace hGp := hGp.ext hE6_1
      replace hGq := hGq.ext hE6_1
      replace o6_5 := o6_5.ext hE6_1
      replace o6_4 := o6_4.ext hE6_1
      refine ⟨fun _ _ => (Bks.cons o6.blk (Bks.cons o8.blk Bks.nil)), ?_⟩
      refine RegD.one (i := 3) (by kernel_rfl) rfl rfl rfl rfl (Does.call rfl (hrq _ (own_sl (wide9 hNq) (by decide) hGq))) ?_
      rintro _ H6_3 ⟨rfl, hE6_3⟩
      have z6_3 := hE6_3.lt
      replace hE := hE.ext hE6_3
      replace ho := ho.ext hE6_3
      replace o6 := o6.ext hE6_3
      replace o8 := o8.ext hE6_3
      replace hGp := hGp.ext hE6_3
      replace hGq := hGq.ext hE6_3
      replace o6_5 := o6_5.ext hE6_3
      replace o6_4 := o6_4.ext hE6_3
      refine ⟨fun _ _ => (Bks.cons o6.blk (Bks.cons o8.blk Bks.nil)), ?_⟩
      refine RegD.one0 (i := 6) (by kernel_rfl) rfl rfl rfl (Does.stn ag47 rfl rfl (ones_Is _) (by rw [List.length_map]; exact hxp) o6_4 (Nat.le_refl _)) ?_
      rintro _ H6_6 hu6_6
      have z6_6 := hu6_6.size
      replace hE := hE.upw hu6_6 (by omega)
      replace ho := ho.upw hu6_6 (by omega)
      replace o6 := o6.upw hu6_6 (by omega)
      replace o8 := o8.upw hu6_6 (by omega)
      replace hGp := hGp.upw hu6_6 (by omega)
      replace hGq := hGq.upw hu6_6 (by omega)
      replace o6_5 := o6_5.upw hu6_6 (by omega)
      replace o6_4 := hu6_6.own
      first | rw [over (by first | rfl | (simp; done))] at o6_4 | skip
      replace o6_4 := o6_4.of (c' := Is p.lst) (by simp)
      refine ⟨fun _ _ => (Bks.cons o6.blk (Bks.cons o8.blk Bks.nil)), ?_⟩
      refine RegD.one0 (i := 7) (by kernel_rfl) rfl rfl rfl (Does.stn ag47 rfl rfl (ones_Is _) (by rw [List.length_map]; exact hxq) o6_5 (Nat.le_refl _)) ?_
      rintro _ H6_7 hu6_7
      have z6_7 := hu6_7.size
      replace hE := hE.upw hu6_7 (by omega)
      replace ho := ho.upw hu6_7 (by omega)
      replace o6 := o6.upw hu6_7 (by omega)
      replace o8 := o8.upw hu6_7 (by omega)
      replace hGp := hGp.upw hu6_7 (by omega)
      replace hGq := hGq.upw hu6_7 (by omega)
      replace o6_4 := o6_4.upw hu6_7 (by omega)
      replace o6_5 := hu6_7.own
      first | rw [over (by first | rfl | (simp; done))] at o6_5 | skip
      replace o6_5 := o6_5.of (c' := Is q.lst) (by simp)
      refine ⟨fun h => (by cases h), ?_⟩
      refine RegD.done (by kernel_rfl) ?_
      exact ⟨(_, _), ⟨o6_4, o6_5, o6, o8, ho, hGp, hGq, hE, by omega, by omega⟩, ⟨rfl, rfl, rfl, rfl, rfl, trivial⟩⟩
    clear o6 o8 ho hGp hGq hE hrp hrq
    obtain ⟨b10, b11⟩ := s
    obtain ⟨o10, o11, o6, o8, ho, hGp, hGq, hE, hb10, hb11⟩ := hs
    have z_hE := hE.lt
    have z_ho := ho.lt
    have z_o6 := o6.lt
    have z_o8 := o8.lt
    have z_o10 := o10.lt
    have z_o11 := o11.lt
    have z_hGp := hGp.lt
    have z_hGq := hGq.lt
    have hgp := hGp.lt
    have hgq := hGq.lt
    have hoff : ∀ {Aq cq n xs}, Gs H_r6 H.size 47 9 Aq cq n xs → 0 < n → 0 ≤ ob Aq := by { intro Aq cq n xs hg hn; obtain ⟨g, c, rfl, _⟩ := hg.blk hn; rw [ob_some]; omega }
    have hap := hoff hGp (by omega)
    have haq := hoff hGq (by omega)
    clear hoff
    refine At.region rfl rfl ?_
    refine Reg.pur rfl rfl rfl rfl (Pur.fld _ fo47_0 rfl) ?_
    refine Reg.lod rfl rfl rfl rfl (Lod.ld sc3 rfl o10.blk (lst_at hpo 0 (by decide))) ?_
    refine Reg.pur rfl rfl rfl rfl (Pur.eql rfl rfl) ?_
    refine Reg.pur rfl rfl rfl rfl (Pur.mv rfl) ?_
    refine Reg.case 55 rfl (fun q55 => ?_) (fun q55 => ?_)
    · first | (simp only [decide_eq_true_eq, decide_eq_false_iff_not, Bool.not_eq_true', Bool.not_eq_false', ne_eq, Decidable.not_not, Bool.not_eq_true, Bool.not_eq_false] at q55) | (dsimp only at q55) | skip
      refine Reg.gpur rfl rfl rfl rfl rfl rfl (Pur.fld _ fo47_0 rfl) ?_
      refine Reg.glod rfl rfl rfl rfl rfl rfl (Lod.ld sc3 rfl o11.blk (lst_at hqo 0 (by decide))) ?_
      refine Reg.gpur rfl rfl rfl rfl rfl rfl (Pur.eql rfl rfl) ?_
      refine Reg.pur rfl rfl rfl rfl (Pur.pickT rfl rfl) ?_
      refine Reg.pur rfl rfl rfl rfl (Pur.mv rfl) ?_
      refine Reg.case 60 rfl (fun q60 => ?_) (fun q60 => ?_)
      · first | (simp only [decide_eq_true_eq, decide_eq_false_iff_not, Bool.not_eq_true', Bool.not_eq_false', ne_eq, Decidable.not_not, Bool.not_eq_true, Bool.not_eq_false] at q60) | (dsimp only at q60) | skip
        refine Reg.gpur rfl rfl rfl rfl rfl rfl (Pur.fld _ fo47_1 rfl) ?_
        refine Reg.glod rfl rfl rfl rfl rfl rfl (Lod.ld sc3 rfl o10.blk (lst_at hpo 1 (by decide))) ?_
        refine Reg.gpur rfl rfl rfl rfl rfl rfl (Pur.fld _ fo47_1 rfl) ?_
        refine Reg.glod rfl rfl rfl rfl rfl rfl (Lod.ld sc3 rfl o11.blk (lst_at hqo 1 (by decide))) ?_
        refine Reg.gpur rfl rfl rfl rfl rfl rfl (Pur.eql rfl rfl) ?_
        refine Reg.pur rfl rfl rfl rfl (Pur.pickT rfl rfl) ?_
        refine Reg.pur rfl rfl rfl rfl (Pur.asg rfl) ?_
        refine Reg.nil ?_
        refine At.cond rfl rfl (fun q51 => ?_) (fun q51 => ?_)
        · first | (simp only [decide_eq_true_eq, decide_eq_false_iff_not, Bool.not_eq_true', Bool.not_eq_false', ne_eq, Decidable.not_not, Bool.not_eq_true, Bool.not_eq_false] at q51) | (dsimp only at q51) | skip
          refine At.fall rfl Try.func79 rfl ?_
          obtain ⟨v, rfl⟩ := lst_var q55
          obtain ⟨w, rfl⟩ := lst_var q60
          obtain rfl : v = w := q51
          rw [uniU_leaf hp hq rfl] at hu
          simp only [leafU, if_true, Option.some.injEq] at hu
          subst hu
          exact ⟨A, cap, Bs, h.ext hE, ho, Md.of_ext hE⟩
        first | (simp only [decide_eq_true_eq, decide_eq_false_iff_not, Bool.not_eq_true', Bool.not_eq_false', ne_eq, Decidable.not_not, Bool.not_eq_true, Bool.not_eq_false] at q51) | (dsimp only at q51) | skip
        refine At.region rfl rfl ?_
        refine Reg.pur rfl rfl rfl rfl (Pur.fld _ fo47_0 rfl) ?_
        refine Reg.lod rfl rfl rfl rfl (Lod.ld sc3 rfl o10.blk (lst_at hpo 0 (by decide))) ?_
        refine Reg.pur rfl rfl rfl rfl (Pur.eql rfl rfl) ?_
        refine Reg.pur rfl rfl rfl rfl (Pur.asg rfl) ?_
        refine Reg.nil ?_
        refine At.cond rfl rfl (fun q67 => ?_) (fun q67 => ?_)
        · first | (simp only [decide_eq_true_eq, decide_eq_false_iff_not, Bool.not_eq_true', Bool.not_eq_false', ne_eq, Decidable.not_not, Bool.not_eq_true, Bool.not_eq_false] at q67) | (dsimp only at q67) | skip
          obtain ⟨v, rfl⟩ := lst_var q55
          have hvq : q ≠ .var v := fun e => by { rw [e] at q51; exact q51 rfl }
          have hres : r = bindU us v q := by { rw [uniU_leaf hp hq rfl, leaf_v1 hvq] at hu; exact (Option.some.inj hu).symm }
          refine At.region rfl rfl ?_
          refine Reg.pur rfl rfl rfl rfl (Pur.mv rfl) ?_
          refine Reg.pur rfl rfl rfl rfl (Pur.fld _ fo47_1 rfl) ?_
          refine Reg.lod rfl rfl rfl rfl (Lod.ld sc3 rfl o10.blk (lst_at hpo 1 (by decide))) ?_
          refine Reg.lod rfl rfl rfl rfl (Lod.ldn ag25 rfl o8.blk (whole rfl) rfl) ?_
          refine Reg.op rfl rfl rfl rfl (Does.call rfl (bindR_ok (h.ext hE) ho (by omega) hqo hqz (hGq.mono (by omega)) (by omega) (fun x hx ↦ by have := (h.ok x hx).lt; omega))) ?_
          rintro w9_4 H9_4 hP
          refine Reg.nil ?_
          refine At.fall rfl Try.func79 rfl ?_
          rw [hres]
          exact RfP.pre (Md.of_ext hE) h.lo hgl.2.1 hP
        first | (simp only [decide_eq_true_eq, decide_eq_false_iff_not, Bool.not_eq_true', Bool.not_eq_false', ne_eq, Decidable.not_not, Bool.not_eq_true, Bool.not_eq_false] at q67) | (dsimp only at q67) | skip
        exact absurd q55 q67
      first | (simp only [decide_eq_true_eq, decide_eq_false_iff_not, Bool.not_eq_true', Bool.not_eq_false', ne_eq, Decidable.not_not, Bool.not_eq_true, Bool.not_eq_false] at q60) | (dsimp only at q60) | skip
      refine Reg.skip rfl rfl rfl rfl rfl rfl rfl ?_
      refine Reg.skip rfl rfl rfl rfl rfl rfl rfl ?_
      refine Reg.skip rfl rfl rfl rfl rfl rfl rfl ?_
      refine Reg.skip rfl rfl rfl rfl rfl rfl rfl ?_
      refine Reg.skip rfl rfl rfl rfl rfl rfl rfl ?_
      refine Reg.pur rfl rfl rfl rfl (Pur.pickF rfl rfl) ?_
      refine Reg.pur rfl rfl rfl rfl (Pur.asg rfl) ?_
      refine Reg.nil ?_
      refine At.condF rfl rfl rfl ?_
      refine At.region rfl rfl ?_
      refine Reg.pur rfl rfl rfl rfl (Pur.fld _ fo47_0 rfl) ?_
      refine Reg.lod rfl rfl rfl rfl (Lod.ld sc3 rfl o10.blk (lst_at hpo 0 (by decide))) ?_
      refine Reg.pur rfl rfl rfl rfl (Pur.eql rfl rfl) ?_
      refine Reg.pur rfl rfl rfl rfl (Pur.asg rfl) ?_
      refine Reg.nil ?_
      refine At.cond rfl rfl (fun q67 => ?_) (fun q67 => ?_)
      · first | (simp only [decide_eq_true_eq, decide_eq_false_iff_not, Bool.not_eq_true', Bool.not_eq_false', ne_eq, Decidable.not_not, Bool.not_eq_true, Bool.not_eq_false] at q67) | (dsimp only at q67) | skip
        obtain ⟨v, rfl⟩ := lst_var q55
        have hvq : q ≠ .var v := fun e => by { rw [e] at q60; exact q60 rfl }
        have hres : r = bindU us v q := by { rw [uniU_leaf hp hq rfl, leaf_v1 hvq] at hu; exact (Option.some.inj hu).symm }
        refine At.region rfl rfl ?_
        refine Reg.pur rfl rfl rfl rfl (Pur.mv rfl) ?_
        refine Reg.pur rfl rfl rfl rfl (Pur.fld _ fo47_1 rfl) ?_
        refine Reg.lod rfl rfl rfl rfl (Lod.ld sc3 rfl o10.blk (lst_at hpo 1 (by decide))) ?_
        refine Reg.lod rfl rfl rfl rfl (Lod.ldn ag25 rfl o8.blk (whole rfl) rfl) ?_
        refine Reg.op rfl rfl rfl rfl (Does.call rfl (bindR_ok (h.ext hE) ho (by omega) hqo hqz (hGq.mono (by omega)) (by omega) (fun x hx ↦ by have := (h.ok x hx).lt; omega))) ?_
        rintro w9_4 H9_4 hP
        refine Reg.nil ?_
        refine At.fall rfl Try.func79 rfl ?_
        rw [hres]
        exact RfP.pre (Md.of_ext hE) h.lo hgl.2.1 hP
      first | (simp only [decide_eq_true_eq, decide_eq_false_iff_not, Bool.not_eq_true', Bool.not_eq_false', ne_eq, Decidable.not_not, Bool.not_eq_true, Bool.not_eq_false] at q67) | (dsimp only at q67) | skip
      exact absurd q55 q67
    first | (simp only [decide_eq_true_eq, decide_eq_false_iff_not, Bool.not_eq_true', Bool.not_eq_false', ne_eq, Decidable.not_not, Bool.not_eq_true, Bool.not_eq_false] at q55) | (dsimp only at q55) | skip
    refine Reg.skip rfl rfl rfl rfl rfl rfl rfl ?_
    refine Reg.skip rfl rfl rfl rfl rfl rfl rfl ?_
    refine Reg.skip rfl rfl rfl rfl rfl rfl rfl ?_
    refine Reg.pur rfl rfl rfl rfl (Pur.pickF rfl rfl) ?_
    refine Reg.pur rfl rfl rfl rfl (Pur.mv rfl) ?_
    refine Reg.skip rfl rfl rfl rfl rfl rfl rfl ?_
    refine Reg.skip rfl rfl rfl rfl rfl rfl rfl ?_
    refine Reg.skip rfl rfl rfl rfl rfl rfl rfl ?_
    refine Reg.skip rfl rfl rfl rfl rfl rfl rfl ?_
    refine Reg.skip rfl rfl rfl rfl rfl rfl rfl ?_
    refine Reg.pur rfl rfl rfl rfl (Pur.pickF rfl rfl) ?_
    refine Reg.pur rfl rfl rfl rfl (Pur.asg rfl) ?_
    refine Reg.nil ?_
    refine At.condF rfl rfl rfl ?_
    refine At.region rfl rfl ?_
    refine Reg.pur rfl rfl rfl rfl (Pur.fld _ fo47_0 rfl) ?_
    refine Reg.lod rfl rfl rfl rfl (Lod.ld sc3 rfl o10.blk (lst_at hpo 0 (by decide))) ?_
    refine Reg.pur rfl rfl rfl rfl (Pur.eql rfl rfl) ?_
    refine Reg.pur rfl rfl rfl rfl (Pur.asg rfl) ?_
    refine Reg.nil ?_
    refine At.cond rfl rfl (fun q67 => ?_) (fun q67 => ?_)
    · first | (simp only [decide_eq_true_eq, decide_eq_false_iff_not, Bool.not_eq_true', Bool.not_eq_false', ne_eq, Decidable.not_not, Bool.not_eq_true, Bool.not_eq_false] at q67) | (dsimp only at q67) | skip
      exact absurd q67 q55
    first | (simp only [decide_eq_true_eq, decide_eq_false_iff_not, Bool.not_eq_true', Bool.not_eq_false', ne_eq, Decidable.not_not, Bool.not_eq_true, Bool.not_eq_false] at q67) | (dsimp only at q67) | skip
    refine At.region rfl rfl ?_
    refine Reg.pur rfl rfl rfl rfl (Pur.fld _ fo47_0 rfl) ?_
    refine Reg.lod rfl rfl rfl rfl (Lod.ld sc3 rfl o11.blk (lst_at hqo 0 (by decide))) ?_
    refine Reg.pur rfl rfl rfl rfl (Pur.eql rfl rfl) ?_
    refine Reg.pur rfl rfl rfl rfl (Pur.asg rfl) ?_
    refine Reg.nil ?_
    refine At.cond rfl rfl (fun q76 => ?_) (fun q76 => ?_)
    · first | (simp only [decide_eq_true_eq, decide_eq_false_iff_not, Bool.not_eq_true', Bool.not_eq_false', ne_eq, Decidable.not_not, Bool.not_eq_true, Bool.not_eq_false] at q76) | (dsimp only at q76) | skip
      obtain ⟨w, rfl⟩ := lst_var q76
      have hres : r = bindU us w p := by { rw [uniU_leaf hp hq (by cases p <;> rfl), leaf_v2 q67] at hu; exact (Option.some.inj hu).symm }
      refine At.region rfl rfl ?_
      refine Reg.pur rfl rfl rfl rfl (Pur.mv rfl) ?_
      refine Reg.pur rfl rfl rfl rfl (Pur.fld _ fo47_1 rfl) ?_
      refine Reg.lod rfl rfl rfl rfl (Lod.ld sc3 rfl o11.blk (lst_at hqo 1 (by decide))) ?_
      refine Reg.lod rfl rfl rfl rfl (Lod.ldn ag25 rfl o6.blk (whole rfl) rfl) ?_
      refine Reg.op rfl rfl rfl rfl (Does.call rfl (bindR_ok (h.ext hE) ho (by omega) hpo hpz (hGp.mono (by omega)) (by omega) (fun x hx ↦ by have := (h.ok x hx).lt; omega))) ?_
      rintro w11_4 H11_4 hP
      refine Reg.nil ?_
      refine At.fall rfl Try.func79 rfl ?_
      rw [hres]
      exact RfP.pre (Md.of_ext hE) h.lo hgl.2.1 hP
    first | (simp only [decide_eq_true_eq, decide_eq_false_iff_not, Bool.not_eq_true', Bool.not_eq_false', ne_eq, Decidable.not_not, Bool.not_eq_true, Bool.not_eq_false] at q76) | (dsimp only at q76) | skip
    refine At.region rfl rfl ?_
    refine Reg.pur rfl rfl rfl rfl (Pur.fld _ fo47_0 rfl) ?_
    refine Reg.lod rfl rfl rfl rfl (Lod.ld sc3 rfl o10.blk (lst_at hpo 0 (by decide))) ?_
    refine Reg.pur rfl rfl rfl rfl (Pur.fld _ fo47_0 rfl) ?_
    refine Reg.lod rfl rfl rfl rfl (Lod.ld sc3 rfl o11.blk (lst_at hqo 0 (by decide))) ?_
    refine Reg.pur rfl rfl rfl rfl (Pur.neq rfl rfl) ?_
    refine Reg.pur rfl rfl rfl rfl (Pur.asg rfl) ?_
    refine Reg.nil ?_
    refine At.cond rfl rfl (fun q85 => ?_) (fun q85 => ?_)
    · first | (simp only [decide_eq_true_eq, decide_eq_false_iff_not, Bool.not_eq_true', Bool.not_eq_false', ne_eq, Decidable.not_not, Bool.not_eq_true, Bool.not_eq_false] at q85) | (dsimp only at q85) | skip
      refine At.region rfl rfl ?_
      refine Reg.pur rfl rfl rfl rfl (Pur.mv rfl) ?_
      have hE13 := hE

      refine Reg.op rfl rfl rfl rfl (Does.call rfl (failR_ok ho)) ?_
      rintro _ H13_1 hu13_1
      have z13_1 := hu13_1.size
      refine Reg.nil ?_
      refine At.fall rfl Try.func79 rfl ?_
      obtain ⟨hle, hlf⟩ := leaf_ne (s := us) q67 q76 q85
      rw [uniU_leaf hp hq hlf, hle] at hu
      cases hu
      exact ⟨⟨_, _, hu13_1.own⟩, by decide, hE13.but.trans (hu13_1.but.mono (fun b hb e => by rw [e]; exact h.lo))⟩
    first | (simp only [decide_eq_true_eq, decide_eq_false_iff_not, Bool.not_eq_true', Bool.not_eq_false', ne_eq, Decidable.not_not, Bool.not_eq_true, Bool.not_eq_false] at q85) | (dsimp only at q85) | skip
    refine At.region rfl rfl ?_
    refine Reg.pur rfl rfl rfl rfl (Pur.fld _ fo47_0 rfl) ?_
    refine Reg.lod rfl rfl rfl rfl (Lod.ld sc3 rfl o10.blk (lst_at hpo 0 (by decide))) ?_
    refine Reg.pur rfl rfl rfl rfl (Pur.eql rfl rfl) ?_
    refine Reg.pur rfl rfl rfl rfl (Pur.asg rfl) ?_
    refine Reg.nil ?_
    refine At.cond rfl rfl (fun q93 => ?_) (fun q93 => ?_)
    · first | (simp only [decide_eq_true_eq, decide_eq_false_iff_not, Bool.not_eq_true', Bool.not_eq_false', ne_eq, Decidable.not_not, Bool.not_eq_true, Bool.not_eq_false] at q93) | (dsimp only at q93) | skip
      obtain ⟨x1, r1, x2, rfl⟩ := lst_fn q93
      obtain ⟨y1, r2, y2, rfl⟩ := lst_fn (q85.symm.trans q93)
      rw [uniU_fn hp hq] at hu
      obtain ⟨w, hw⟩ : ∃ w, uniU n us x1 y1 = some w := by { cases hx : uniU n us x1 y1 with | none => (rw [hx] at hu; cases hu) | some x => exact ⟨x, rfl⟩ }
      rw [hw] at hu
      obtain ⟨lf, lr, lg⟩ := lw_row hpl
      obtain ⟨lh, lr', li⟩ := lw_row hql
      have hps := hpz
      have hqs := hqz
      simp only [Tm.sz] at hps hqs
      have hrp : ((Is (Tm.fn x1 r1 x2).lst).drop (0 + 4)).take 5 = Is r1 := nod_row (o := 0) (by rw [List.drop_zero, List.take_of_length_le (by rw [List.length_map, hxp]; decide)]; rfl) hpo.2.1
      have hrq : ((Is (Tm.fn y1 r2 y2).lst).drop (0 + 4)).take 5 = Is r2 := nod_row (o := 0) (by rw [List.drop_zero, List.take_of_length_le (by rw [List.length_map, hxq]; decide)]; rfl) hqo.2.1
      clear hxp hxq
      refine At.region rfl rfl ?_
      refine Reg.lod rfl rfl rfl rfl (Lod.ldn ag25 rfl o6.blk (whole rfl) rfl) ?_
      refine Reg.op rfl rfl rfl rfl (Does.call rfl (partsR_ok hpo hpz (own_sl (wide9 hNp) (by decide) hGp))) ?_
      rintro v15_1 H15_1 ⟨⟨v1, v2, rfl, hT1, hT2⟩, hE15_1⟩
      have z15_1 := hE15_1.lt
      replace hE := hE.ext hE15_1
      replace ho := ho.ext hE15_1
      replace o6 := o6.ext hE15_1
      replace o8 := o8.ext hE15_1
      replace o10 := o10.ext hE15_1
      replace o11 := o11.ext hE15_1
      replace hGp := hGp.ext hE15_1
      replace hGq := hGq.ext hE15_1
      obtain ⟨B1, k1, rfl, hS1, hb1⟩ := hT1
      obtain ⟨B2, k2, rfl, hS2, hb2⟩ := hT2
      have z_hS1 := hS1.lt
      have z_hS2 := hS2.lt
      refine Reg.pur rfl rfl rfl rfl (Pur.mv rfl) ?_
      refine Reg.pur rfl rfl rfl rfl (Pur.ext rfl rfl) ?_
      refine Reg.pur rfl rfl rfl rfl (Pur.ext rfl rfl) ?_
      refine Reg.op rfl rfl rfl rfl (Does.alloc zc25) ?_
      rintro _ H15_5 ⟨rfl, hn15_5⟩
      have z15_5 := hn15_5.size
      replace hE := hE.ext hn15_5.ext
      replace ho := ho.ext hn15_5.ext
      replace o6 := o6.ext hn15_5.ext
      replace o8 := o8.ext hn15_5.ext
      replace o10 := o10.ext hn15_5.ext
      replace o11 := o11.ext hn15_5.ext
      replace hGp := hGp.ext hn15_5.ext
      replace hGq := hGq.ext hn15_5.ext
      replace hS1 := hS1.ext hn15_5.ext
      replace hS2 := hS2.ext hn15_5.ext
      have o15_5 := hn15_5.own
      refine Reg.op rfl rfl rfl rfl (Does.alloc zc25) ?_
      rintro _ H15_6 ⟨rfl, hn15_6⟩
      have z15_6 := hn15_6.size
      replace hE := hE.ext hn15_6.ext
      replace ho := ho.ext hn15_6.ext
      replace o6 := o6.ext hn15_6.ext
      replace o8 := o8.ext hn15_6.ext
      replace o10 := o10.ext hn15_6.ext
      replace o11 := o11.ext hn15_6.ext
      replace hGp := hGp.ext hn15_6.ext
      replace hGq := hGq.ext hn15_6.ext
      replace hS1 := hS1.ext hn15_6.ext
      replace hS2 := hS2.ext hn15_6.ext
      replace o15_5 := o15_5.ext hn15_6.ext
      have o15_6 := hn15_6.own
      refine Reg.op0 rfl rfl rfl (Does.stn ag25 rfl rfl (by first | rfl | exact ones_Is _) (by first | rfl | (simp [*]; done)) o15_5 (by first | decide | (simp; done) | (simp; omega) | omega)) ?_
      rintro _ H15_7 hu15_7
      have z15_7 := hu15_7.size
      replace hE := hE.upw hu15_7 (by omega)
      replace ho := ho.upw hu15_7 (by omega)
      replace o6 := o6.upw hu15_7 (by omega)
      replace o8 := o8.upw hu15_7 (by omega)
      replace o10 := o10.upw hu15_7 (by omega)
      replace o11 := o11.upw hu15_7 (by omega)
      replace hGp := hGp.upw hu15_7 (by omega)
      replace hGq := hGq.upw hu15_7 (by omega)
      replace hS1 := hS1.upw hu15_7 (by omega)
      replace hS2 := hS2.upw hu15_7 (by omega)
      replace o15_6 := o15_6.upw hu15_7 (by omega)
      replace o15_5 := hu15_7.own
      first | rw [over (by first | rfl | (simp; done))] at o15_5 | skip
      refine Reg.op0 rfl rfl rfl (Does.stn ag25 rfl rfl (by first | rfl | exact ones_Is _) (by first | rfl | (simp [*]; done)) o15_6 (by first | decide | (simp; done) | (simp; omega) | omega)) ?_
      rintro _ H15_8 hu15_8
      have z15_8 := hu15_8.size
      replace hE := hE.upw hu15_8 (by omega)
      replace ho := ho.upw hu15_8 (by omega)
      replace o6 := o6.upw hu15_8 (by omega)
      replace o8 := o8.upw hu15_8 (by omega)
      replace o10 := o10.upw hu15_8 (by omega)
      replace o11 := o11.upw hu15_8 (by omega)
      replace hGp := hGp.upw hu15_8 (by omega)
      replace hGq := hGq.upw hu15_8 (by omega)
      replace hS1 := hS1.upw hu15_8 (by omega)
      replace hS2 := hS2.upw hu15_8 (by omega)
      replace o15_5 := o15_5.upw hu15_8 (by omega)
      replace o15_6 := hu15_8.own
      first | rw [over (by first | rfl | (simp; done))] at o15_6 | skip
      refine Reg.nil ?_
      refine At.region rfl rfl ?_
      refine Reg.lod rfl rfl rfl rfl (Lod.ldn ag25 rfl o8.blk (whole rfl) rfl) ?_
      refine Reg.op rfl rfl rfl rfl (Does.call rfl (partsR_ok hqo hqz (own_sl (wide9 hNq) (by decide) hGq))) ?_
      rintro v16_1 H16_1 ⟨⟨v1, v2, rfl, hT1, hT2⟩, hE16_1⟩
      have z16_1 := hE16_1.lt
      replace hE := hE.ext hE16_1
      replace ho := ho.ext hE16_1
      replace o6 := o6.ext hE16_1
      replace o8 := o8.ext hE16_1
      replace o10 := o10.ext hE16_1
      replace o11 := o11.ext hE16_1
      replace hGp := hGp.ext hE16_1
      replace hGq := hGq.ext hE16_1
      replace hS1 := hS1.ext hE16_1
      replace hS2 := hS2.ext hE16_1
      replace o15_5 := o15_5.ext hE16_1
      replace o15_6 := o15_6.ext hE16_1
      obtain ⟨B3, k3, rfl, hS3, hb3⟩ := hT1
      obtain ⟨B4, k4, rfl, hS4, hb4⟩ := hT2
      have z_hS3 := hS3.lt
      have z_hS4 := hS4.lt
      refine Reg.pur rfl rfl rfl rfl (Pur.mv rfl) ?_
      refine Reg.pur rfl rfl rfl rfl (Pur.ext rfl rfl) ?_
      refine Reg.pur rfl rfl rfl rfl (Pur.ext rfl rfl) ?_
      refine Reg.op rfl rfl rfl rfl (Does.alloc zc25) ?_
      rintro _ H16_5 ⟨rfl, hn16_5⟩
      have z16_5 := hn16_5.size
      replace hE := hE.ext hn16_5.ext
      replace ho := ho.ext hn16_5.ext
      replace o6 := o6.ext hn16_5.ext
      replace o8 := o8.ext hn16_5.ext
      replace o10 := o10.ext hn16_5.ext
      replace o11 := o11.ext hn16_5.ext
      replace hGp := hGp.ext hn16_5.ext
      replace hGq := hGq.ext hn16_5.ext
      replace hS1 := hS1.ext hn16_5.ext
      replace hS2 := hS2.ext hn16_5.ext
      replace o15_5 := o15_5.ext hn16_5.ext
      replace o15_6 := o15_6.ext hn16_5.ext
      replace hS3 := hS3.ext hn16_5.ext
      replace hS4 := hS4.ext hn16_5.ext
      have o16_5 := hn16_5.own
      refine Reg.op rfl rfl rfl rfl (Does.alloc zc25) ?_
      rintro _ H16_6 ⟨rfl, hn16_6⟩
      have z16_6 := hn16_6.size
      replace hE := hE.ext hn16_6.ext
      replace ho := ho.ext hn16_6.ext
      replace o6 := o6.ext hn16_6.ext
      replace o8 := o8.ext hn16_6.ext
      replace o10 := o10.ext hn16_6.ext
      replace o11 := o11.ext hn16_6.ext
      replace hGp := hGp.ext hn16_6.ext
      replace hGq := hGq.ext hn16_6.ext
      replace hS1 := hS1.ext hn16_6.ext
      replace hS2 := hS2.ext hn16_6.ext
      replace o15_5 := o15_5.ext hn16_6.ext
      replace o15_6 := o15_6.ext hn16_6.ext
      replace hS3 := hS3.ext hn16_6.ext
      replace hS4 := hS4.ext hn16_6.ext
      replace o16_5 := o16_5.ext hn16_6.ext
      have o16_6 := hn16_6.own
      refine Reg.op0 rfl rfl rfl (Does.stn ag25 rfl rfl (by first | rfl | exact ones_Is _) (by first | rfl | (simp [*]; done)) o16_5 (by first | decide | (simp; done) | (simp; omega) | omega)) ?_
      rintro _ H16_7 hu16_7
      have z16_7 := hu16_7.size
      replace hE := hE.upw hu16_7 (by omega)
      replace ho := ho.upw hu16_7 (by omega)
      replace o6 := o6.upw hu16_7 (by omega)
      replace o8 := o8.upw hu16_7 (by omega)
      replace o10 := o10.upw hu16_7 (by omega)
      replace o11 := o11.upw hu16_7 (by omega)
      replace hGp := hGp.upw hu16_7 (by omega)
      replace hGq := hGq.upw hu16_7 (by omega)
      replace hS1 := hS1.upw hu16_7 (by omega)
      replace hS2 := hS2.upw hu16_7 (by omega)
      replace o15_5 := o15_5.upw hu16_7 (by omega)
      replace o15_6 := o15_6.upw hu16_7 (by omega)
      replace hS3 := hS3.upw hu16_7 (by omega)
      replace hS4 := hS4.upw hu16_7 (by omega)
      replace o16_6 := o16_6.upw hu16_7 (by omega)
      replace o16_5 := hu16_7.own
      first | rw [over (by first | rfl | (simp; done))] at o16_5 | skip
      refine Reg.op0 rfl rfl rfl (Does.stn ag25 rfl rfl (by first | rfl | exact ones_Is _) (by first | rfl | (simp [*]; done)) o16_6 (by first | decide | (simp; done) | (simp; omega) | omega)) ?_
      rintro _ H16_8 hu16_8
      have z16_8 := hu16_8.size
      replace hE := hE.upw hu16_8 (by omega)
      replace ho := ho.upw hu16_8 (by omega)
      replace o6 := o6.upw hu16_8 (by omega)
      replace o8 := o8.upw hu16_8 (by omega)
      replace o10 := o10.upw hu16_8 (by omega)
      replace o11 := o11.upw hu16_8 (by omega)
      replace hGp := hGp.upw hu16_8 (by omega)
      replace hGq := hGq.upw hu16_8 (by omega)
      replace hS1 := hS1.upw hu16_8 (by omega)
      replace hS2 := hS2.upw hu16_8 (by omega)
      replace o15_5 := o15_5.upw hu16_8 (by omega)
      replace o15_6 := o15_6.upw hu16_8 (by omega)
      replace hS3 := hS3.upw hu16_8 (by omega)
      replace hS4 := hS4.upw hu16_8 (by omega)
      replace o16_5 := o16_5.upw hu16_8 (by omega)
      replace o16_6 := hu16_8.own
      first | rw [over (by first | rfl | (simp; done))] at o16_6 | skip
      refine Reg.nil ?_
      refine At.region rfl rfl ?_
      refine Reg.pur rfl rfl rfl rfl (Pur.mv rfl) ?_
      refine Reg.lod rfl rfl rfl rfl (Lod.ldn ag25 rfl o15_5.blk (whole rfl) rfl) ?_
      refine Reg.lod rfl rfl rfl rfl (Lod.ldn ag25 rfl o16_5.blk (whole rfl) rfl) ?_
      refine Reg.op rfl rfl rfl rfl (Does.call rfl (typesR_ok n hw hG (h.ext hE) ho hpo.1 (by omega) hqo.1 (by omega) lf lh hS1 hS3)) ?_
      rintro w17_3 H17_3 hP1
      obtain ⟨x17, y17, c17, ho17, hc17⟩ := hP1.code
      refine Reg.nil ?_
      refine At.region rfl rfl ?_
      refine Reg.pur rfl rfl rfl rfl (Pur.mv rfl) ?_
      refine Reg.pur rfl rfl rfl rfl (Pur.nilc rfl) ?_
      refine Reg.pur rfl rfl rfl rfl (Pur.fld _ fo127_2 rfl) ?_
      refine Reg.lod rfl rfl rfl rfl (Lod.ld sc3 rfl ho17.blk rfl) ?_
      refine Reg.pur rfl rfl rfl rfl (Pur.eql rfl rfl) ?_
      refine Reg.nil ?_
      refine At.cond rfl rfl (fun q115 => ?_) (fun q115 => ?_)
      · first | (simp only [decide_eq_true_eq, decide_eq_false_iff_not, Bool.not_eq_true', Bool.not_eq_false', ne_eq, Decidable.not_not, Bool.not_eq_true, Bool.not_eq_false] at q115) | (dsimp only at q115) | skip
        obtain ⟨s1, rfl⟩ := ok_of (hc17.1 q115)
        dsimp only at hu
        clear ho17
        obtain ⟨A', cap', Bs', hSl1, ho1, hM1⟩ := hP1
        obtain ⟨G1, m1, _⟩ := uniU_good n hG hpo.1 hqo.1 lf lh hw
        have hlen1 : Bs'.length ≤ 8192 := by rw [← hSl1.lenT]; exact G1.len
        have hMd := (Md.of_ext hE).trans hM1
        replace o10 := o10.via hM1.1 (by omega)
        replace o11 := o11.via hM1.1 (by omega)
        replace hS2 := hS2.via hM1.1 (fun h0 g hg hh => by omega)
        replace hS4 := hS4.via hM1.1 (fun h0 g hg hh => by omega)
        replace o15_6 := o15_6.via hM1.1 (by omega)
        replace o16_6 := o16_6.via hM1.1 (by omega)
        have hz1 := hM1.1.1
        have hob1 := hM1.2
        have hE := Ext.refl H17_3
        have hgl1 := hSl1.lt

        refine At.region rfl rfl ?_
        refine Reg.pur rfl rfl rfl rfl (Pur.mv rfl) ?_
        refine Reg.pur rfl rfl rfl rfl (Pur.fld _ fo47_4 rfl) ?_
        refine Reg.lod rfl rfl rfl rfl (Lod.ldn ag28 rfl o10.blk hrp (by rw [List.length_map]; exact hpo.2.1)) ?_
        refine Reg.pur rfl rfl rfl rfl (Pur.fld _ fo47_4 rfl) ?_
        refine Reg.lod rfl rfl rfl rfl (Lod.ldn ag28 rfl o11.blk hrq (by rw [List.length_map]; exact hqo.2.1)) ?_
        refine Reg.op rfl rfl rfl rfl (Does.call rfl (rowsR_ok hSl1 ho1 (by omega) hpo.2.1 hpo.2.2.1 hqo.2.1 hqo.2.2.1 ⟨G1.f0, G1.f1⟩)) ?_
        rintro w19_5 H19_5 hP2
        obtain ⟨x17, y17, c19, ho17, hc19⟩ := hP2.code
        refine Reg.nil ?_
        refine At.region rfl rfl ?_
        refine Reg.pur rfl rfl rfl rfl (Pur.mv rfl) ?_
        refine Reg.pur rfl rfl rfl rfl (Pur.nilc rfl) ?_
        refine Reg.pur rfl rfl rfl rfl (Pur.fld _ fo127_2 rfl) ?_
        refine Reg.lod rfl rfl rfl rfl (Lod.ld sc3 rfl ho17.blk rfl) ?_
        refine Reg.pur rfl rfl rfl rfl (Pur.eql rfl rfl) ?_
        refine Reg.nil ?_
        refine At.cond rfl rfl (fun q126 => ?_) (fun q126 => ?_)
        · first | (simp only [decide_eq_true_eq, decide_eq_false_iff_not, Bool.not_eq_true', Bool.not_eq_false', ne_eq, Decidable.not_not, Bool.not_eq_true, Bool.not_eq_false] at q126) | (dsimp only at q126) | skip
          obtain ⟨s2, hr2⟩ := ok_of (hc19.1 q126)
          rw [hr2] at hu hP2
          dsimp only at hu
          clear ho17
          obtain ⟨A'', cap'', Bs'', hSl2, ho2, hM2⟩ := hP2
          obtain ⟨G2, m2, _⟩ := rowsU_good G1 hpo.2.1 hpo.2.2.1 hqo.2.1 hqo.2.2.1 (by omega) (by omega) hr2
          replace hS2 := hS2.via hM2.1 (fun h0 g hg hh => by omega)
          replace hS4 := hS4.via hM2.1 (fun h0 g hg hh => by omega)
          replace o15_6 := o15_6.via hM2.1 (by omega)
          replace o16_6 := o16_6.via hM2.1 (by omega)
          refine At.region rfl rfl ?_
          refine Reg.pur rfl rfl rfl rfl (Pur.mv rfl) ?_
          refine Reg.lod rfl rfl rfl rfl (Lod.ldn ag25 rfl o15_6.blk (whole rfl) rfl) ?_
          refine Reg.lod rfl rfl rfl rfl (Lod.ldn ag25 rfl o16_6.blk (whole rfl) rfl) ?_
          refine Reg.op rfl rfl rfl rfl (Does.call rfl (typesR_ok n hu G2 hSl2 ho2 hpo.2.2.2 (by omega) hqo.2.2.2 (by omega) (lg.mono (by omega)) (li.mono (by omega)) hS2 hS4)) ?_
          rintro w21_3 H21_3 hP3
          refine Reg.nil ?_
          refine At.fall rfl Try.func79 rfl ?_
          exact RfP.pre (hMd.trans hM2) h.lo hgl.2.1 hP3
        first | (simp only [decide_eq_true_eq, decide_eq_false_iff_not, Bool.not_eq_true', Bool.not_eq_false', ne_eq, Decidable.not_not, Bool.not_eq_true, Bool.not_eq_false] at q126) | (dsimp only at q126) | skip
        refine At.fall rfl Try.func79 rfl ?_
        obtain ⟨c, hc⟩ := err_of (not_of (fun e => q126 (hc19.2 e)))
        rw [hc] at hu hP2
        cases hu
        exact RfP.pre hMd h.lo hgl.2.1 hP2
      first | (simp only [decide_eq_true_eq, decide_eq_false_iff_not, Bool.not_eq_true', Bool.not_eq_false', ne_eq, Decidable.not_not, Bool.not_eq_true, Bool.not_eq_false] at q115) | (dsimp only at q115) | skip
      refine At.region rfl rfl ?_
      refine Reg.pur rfl rfl rfl rfl (Pur.mv rfl) ?_
      refine Reg.pur rfl rfl rfl rfl (Pur.nilc rfl) ?_
      refine Reg.pur rfl rfl rfl rfl (Pur.fld _ fo127_2 rfl) ?_
      refine Reg.lod rfl rfl rfl rfl (Lod.ld sc3 rfl ho17.blk rfl) ?_
      refine Reg.pur rfl rfl rfl rfl (Pur.eql rfl rfl) ?_
      refine Reg.nil ?_
      refine At.cond rfl rfl (fun q126 => ?_) (fun q126 => ?_)
      · first | (simp only [decide_eq_true_eq, decide_eq_false_iff_not, Bool.not_eq_true', Bool.not_eq_false', ne_eq, Decidable.not_not, Bool.not_eq_true, Bool.not_eq_false] at q126) | (dsimp only at q126) | skip
        exact absurd q126 q115
      first | (simp only [decide_eq_true_eq, decide_eq_false_iff_not, Bool.not_eq_true', Bool.not_eq_false', ne_eq, Decidable.not_not, Bool.not_eq_true, Bool.not_eq_false] at q126) | (dsimp only at q126) | skip
      refine At.fall rfl Try.func79 rfl ?_
      obtain ⟨c, rfl⟩ := err_of (not_of (fun e => q115 (hc17.2 e)))
      cases hu
      exact RfP.pre (Md.of_ext hE) h.lo hgl.2.1 hP1
    first | (simp only [decide_eq_true_eq, decide_eq_false_iff_not, Bool.not_eq_true', Bool.not_eq_false', ne_eq, Decidable.not_not, Bool.not_eq_true, Bool.not_eq_false] at q93) | (dsimp only at q93) | skip
    refine At.fall rfl Try.func79 rfl ?_
    obtain ⟨hle, hlf⟩ := leaf_eq (s := us) q67 q93 q85
    rw [uniU_leaf hp hq hlf, hle] at hu
    cases hu
    exact ⟨A, cap, Bs, h.ext hE, ho, Md.of_ext hE⟩
end Go.Proofs.Ytlfillhffpiffaa
