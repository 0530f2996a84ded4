/-
  Chapter 21: the reference's machine: its state, its small functions.
-/
import Derived.Test.YtjhkmebmbopfoaaMacF
import Derived.Test.YtjhkmebmbopfoaaMacL
import Derived.Test.YtjhkmebmbopfoaaFxV
namespace Go.Proofs.Ytjhkmebmbopfoaa
set_option linter.unusedSimpArgs false
set_option linter.unusedVariables false
set_option maxRecDepth 8000
set_option maxHeartbeats 1000000
open Go Go.Fx Go.Proofs
namespace FactsMacM
theorem ag25 : ag Try.prog 25 = some 2 := by kernel_rfl
theorem ag58 : ag Try.prog 58 = some 7 := by kernel_rfl
theorem ag76 : ag Try.prog 76 = some 10 := by kernel_rfl
theorem apt54 : appT Try.prog 54 = some (76, 10, 96) := by kernel_rfl
theorem es54 : esz Try.prog 54 = some 10 := by kernel_rfl
theorem fo106_0 : foff Try.prog 106 0 = some 0 := by kernel_rfl
theorem fo106_1 : foff Try.prog 106 1 = some 1 := by kernel_rfl
theorem fo106_2 : foff Try.prog 106 2 = some 8 := by kernel_rfl
theorem fo58_0 : foff Try.prog 58 0 = some 0 := by kernel_rfl
theorem fo58_1 : foff Try.prog 58 1 = some 1 := by kernel_rfl
theorem fo58_5 : foff Try.prog 58 5 = some 5 := by kernel_rfl
theorem fo60_1 : foff Try.prog 60 1 = some 1 := by kernel_rfl
theorem fo60_2 : foff Try.prog 60 2 = some 2 := by kernel_rfl
theorem fo60_3 : foff Try.prog 60 3 = some 3 := by kernel_rfl
theorem fo60_4 : foff Try.prog 60 4 = some 4 := by kernel_rfl
theorem fo60_5 : foff Try.prog 60 5 = some 5 := by kernel_rfl
theorem fo60_6 : foff Try.prog 60 6 = some 12 := by kernel_rfl
theorem fo60_7 : foff Try.prog 60 7 = some 13 := by kernel_rfl
theorem isPt55 : isPt Try.prog 55 = true := by kernel_rfl
theorem isl54 : isSl Try.prog 54 = true := by kernel_rfl
theorem mixed : Try.prog.follows .mixedOrders = true := by kernel_rfl
theorem pl106 : places Try.prog 106 = some [(0, 1), (1, 7), (8, 1)] := by kernel_rfl
theorem pl25 : places Try.prog 25 = some [(0, 1), (1, 1)] := by kernel_rfl
theorem pl58 : places Try.prog 58 = some [(0, 1), (1, 1), (2, 1), (3, 1), (4, 1), (5, 1), (6, 1)] := by kernel_rfl
theorem pl76 : places Try.prog 76 = some [(0, 1), (1, 1), (2, 1), (3, 7)] := by kernel_rfl
theorem sc3 : sc Try.prog 3 = true := by kernel_rfl
theorem sc4 : sc Try.prog 4 = true := by kernel_rfl
theorem sc54 : sc Try.prog 54 = true := by kernel_rfl
theorem sc55 : sc Try.prog 55 = true := by kernel_rfl
theorem sc56 : sc Try.prog 56 = true := by kernel_rfl
theorem slA54 : slA Try.prog 54 = some (76, 10) := by kernel_rfl
theorem zc106 : zc Try.prog 106 = some [.int .i64 0, .int .i64 0, .int .i64 0, .int .i64 0, .pointer none, .slice none 0 0, .pointer none, .pointer none, .pointer none] := by kernel_rfl
theorem zc25 : zc Try.prog 25 = some [.int .i64 0, .int .i64 0] := by kernel_rfl
theorem zc58 : zc Try.prog 58 = some [.int .i64 0, .int .i64 0, .int .i64 0, .pointer none, .slice none 0 0, .pointer none, .pointer none] := by kernel_rfl
theorem zc76 : zc Try.prog 76 = some [.int .i64 0, .int .i64 0, .pointer none, .int .i64 0, .int .i64 0, .int .i64 0, .pointer none, .slice none 0 0, .pointer none, .pointer none] := by kernel_rfl
end FactsMacM
open FactsMacM

/-- the machine's cells -/
abbrev mc (N : Value) (n : Nat) (A : Option Addr) (cap : Nat) (ev : Bool) (nd : Int) (pe : Value) (vc : List Value) (dn : Bool) (o1 o2 : Int) : List Value :=
  N :: .slice A n cap :: .bool ev :: I nd :: pe :: (vc ++ [.bool dn, I o1, I o2])
structure Qs (L : List (List Int)) (N : Value) (m B : Nat) (G : Gh) (s : Nat) (H : Heap) (fr : List Fr) (A : Option Addr) (cap : Nat) (ev : Bool) (nd : Int) (pe : Value) (vc : List Value) (dn : Bool) (o1 o2 : Int) : Prop where
  own : Own H m (mc N fr.length A cap ev nd pe vc dn o1 o2)
  v7 : vc.length = 7
  arr : ∃ xs, Gs H B 76 10 A cap fr.length xs ∧ rqS G L fr xs
  fz : Fz G m (ob A) s H
  lm : m < s
  la : ob A < s
  ne : ob A ≠ m
  bm : B ≤ m
  len : ∀ x ∈ L, x.length = 9
  ns : ∃ An capn, N = .slice An L.length capn ∧ SlT H Is 9 N L ∧ (L.length = 0 ∨ ob An < B)
section qs
variable {L : List (List Int)} {N : Value} {m B : Nat} {G : Gh} {s : Nat} {H H' : Heap} {fr : List Fr} {A : Option Addr} {cap : Nat} {ev dn : Bool} {nd o1 o2 : Int} {pe : Value} {vc : List Value}
theorem Qs.alo (h : Qs L N m B G s H fr A cap ev nd pe vc dn o1 o2) : ob A = -1 ∨ (B : Int) ≤ ob A := by
  obtain ⟨xs, hg, _⟩ := h.arr
  exact hg.lt.2
theorem Qs.lt (h : Qs L N m B G s H fr A cap ev nd pe vc dn o1 o2) : s ≤ H.size ∧ m < s ∧ B ≤ m ∧ ob A < s ∧ ob A ≠ m ∧ (ob A = -1 ∨ (B : Int) ≤ ob A) := ⟨h.fz.hs, h.lm, h.bm, h.la, h.ne, h.alo⟩
theorem Qs.via {S : Nat → Prop} (h : Qs L N m B G s H fr A cap ev nd pe vc dn o1 o2) (k : But S H H') (hS : ∀ g : Nat, S g → s ≤ g) : Qs L N m B G s H' fr A cap ev nd pe vc dn o1 o2 := by
  have hm := h.lm
  have ha := h.la
  have hb := h.bm
  obtain ⟨xs, hg, hr⟩ := h.arr
  obtain ⟨An, capn, rfl, hN, hl⟩ := h.ns
  refine ⟨h.own.but k (fun hs => ?_), h.v7, ⟨xs, hg.via k (fun g hga hs => ?_), hr⟩, h.fz.via k (fun g hs => .inr (.inr (hS g hs))), h.lm, h.la, h.ne, h.bm, h.len, An, capn, rfl, hN.via k (fun h0 g hga hs => ?_), hl⟩
  · have := hS m hs; omega
  · have := hS g hs; omega
  · have := hS g hs; omega
theorem Qs.ext (h : Qs L N m B G s H fr A cap ev nd pe vc dn o1 o2) (k : Ext H H') : Qs L N m B G s H' fr A cap ev nd pe vc dn o1 o2 := h.via (S := fun _ => False) k.but fun _ hf => hf.elim
theorem Qs.upw {b : Nat} {c : List Value} (h : Qs L N m B G s H fr A cap ev nd pe vc dn o1 o2) (u : Upd H H' b c) (hb : s ≤ b) : Qs L N m B G s H' fr A cap ev nd pe vc dn o1 o2 := h.via u.but fun g hg => by subst hg; exact hb
theorem Qs.re (h : Qs L N m B G s H fr A cap ev nd pe vc dn o1 o2) {s' : Nat} (h1 : s ≤ s') (h2 : s' ≤ H.size) : Qs L N m B G s' H fr A cap ev nd pe vc dn o1 o2 :=
  ⟨h.own, h.v7, h.arr, h.fz.re h1 h2 (.inl rfl), Nat.lt_of_lt_of_le h.lm h1, by have := h.la; omega, h.ne, h.bm, h.len, h.ns⟩
theorem Qs.set (h : Qs L N m B G s H fr A cap ev nd pe vc dn o1 o2) {ev' dn' : Bool} {nd' o1' o2' : Int} {pe' : Value} {vc' : List Value} (o : Own H' m (mc N fr.length A cap ev' nd' pe' vc' dn' o1' o2')) (hv : vc'.length = 7) (k : But (fun g => g = m) H H') : Qs L N m B G s H' fr A cap ev' nd' pe' vc' dn' o1' o2' := by
  have hm := h.lm
  have ha := h.la
  have hne := h.ne
  have hb := h.bm
  obtain ⟨xs, hg, hr⟩ := h.arr
  obtain ⟨An, capn, rfl, hN, hl⟩ := h.ns
  exact ⟨o, hv, ⟨xs, hg.via k (by intro g hg h; omega), hr⟩, h.fz.via k (fun g hg => .inl (by omega)), h.lm, h.la, h.ne, h.bm, h.len, An, capn, rfl, hN.via k (by intro h0 g hg h; omega), hl⟩
theorem Qs.add (h : Qs L N m B G s H fr A cap ev nd pe vc dn o1 o2) {b : Nat} {c : List Value} (hb : Blk H b c) (hs : s ≤ b) : Qs L N m B (Gset G b c) (b + 1) H fr A cap ev nd pe vc dn o1 o2 := by
  have hm := h.lm
  have ha := h.la
  obtain ⟨xs, hg, hr⟩ := h.arr
  exact ⟨h.own, h.v7, ⟨xs, hg, rqS_mono (gset_le h.fz hs) hr⟩, h.fz.add hb hs (by omega) (by omega), by omega, by omega, h.ne, h.bm, h.len, h.ns⟩
theorem Qs.gne (h : Qs L N m B G s H fr A cap ev nd pe vc dn o1 o2) {b : Nat} {d : List Value} (hb : G b = some d) : b ≠ m ∧ (b : Int) ≠ ob A ∧ b < s := by
  have h1 := h.fz.nx b d hb
  exact ⟨by omega, h.fz.ny b d hb, h.fz.lo b d hb⟩
theorem Qs.node (h : Qs L N m B G s H fr A cap ev nd pe vc dn o1 o2) {i : Int} (h0 : 0 ≤ i) (h1 : i < L.length) :
    ∃ bn on capn c, N = .slice (some ⟨bn, on, none⟩) L.length capn ∧ Blk H bn c ∧ bn < B ∧ (c.drop (on + i.toNat * 9)).take 9 = Is (el L i) ∧ (el L i).length = 9 := by
  obtain ⟨An, capn, rfl, hN, hl⟩ := h.ns
  have hi : i.toNat < L.length := by omega
  obtain ⟨b, o, c, rfl, hB, _, hc⟩ := hN.at hi
  have e : el L i = L[i.toNat] := by simp [el, List.getD_eq_getElem?_getD, hi]
  refine ⟨b, o, capn, c, rfl, hB, ?_, ?_, ?_⟩
  · rw [ob_some] at hl; omega
  · rw [e]; exact hc
  · rw [e]; exact h.len _ (List.getElem_mem hi)
end qs
theorem sevn {c : List Value} (h : c.length = 7) : ∃ a0 a1 a2 a3 a4 a5 a6, c = [a0, a1, a2, a3, a4, a5, a6] := by
  match c, h with
  | [a0, a1, a2, a3, a4, a5, a6], _ => exact ⟨_, _, _, _, _, _, _, rfl⟩
variable {L : List (List Int)} {N : Value} {m B : Nat} {G : Gh} {s : Nat} {fr : List Fr} {A : Option Addr} {cap : Nat} {ev dn : Bool} {nd o1 o2 : Int} {pe : Value} {vc : List Value}
theorem endR_ok {H : Heap} (hM : Qs L N m B G s H fr A cap ev nd pe vc dn o1 o2) (k n : Int) :
    Ret Try.prog 52 [ptr m 0, I k, I n] H (fun _ H' => Qs L N m B G s H' fr A cap ev nd pe vc true k n ∧ But (fun g => g = m) H H') := by
  have ho := hM.own
  obtain ⟨a0, a1, a2, a3, a4, a5, a6, rfl⟩ := sevn hM.v7
  refine Ret.of_at (N := 15) Try.call52 Try.func52 rfl rfl rfl ?_
  have hE := Ext.refl H
  have z_ho := ho.lt
  refine At.region rfl rfl ?_
  refine Reg.pur rfl rfl rfl rfl (Pur.mv rfl) ?_
  refine Reg.pur rfl rfl rfl rfl (Pur.nilc rfl) ?_
  refine Reg.pur rfl rfl rfl rfl (Pur.fld _ fo60_6 rfl) ?_
  refine Reg.op0 rfl rfl rfl (Does.st sc4 rfl rfl rfl ho (by simp)) ?_
  rintro _ H0_3 hu0_3
  have z0_3 := hu0_3.size
  replace ho := hu0_3.own
  refine Reg.nil ?_
  refine At.region rfl rfl ?_
  refine Reg.pur rfl rfl rfl rfl (Pur.mv rfl) ?_
  refine Reg.pur rfl rfl rfl rfl (Pur.mv rfl) ?_
  refine Reg.pur rfl rfl rfl rfl (Pur.mv rfl) ?_
  refine Reg.pur rfl rfl rfl rfl (Pur.bld (cs := [_, _]) pl25 zc25 rfl rfl ⟨rfl, rfl, rfl⟩) ?_
  refine Reg.pur rfl rfl rfl rfl (Pur.nilc rfl) ?_
  refine Reg.pur rfl rfl rfl rfl (Pur.fld _ fo60_7 rfl) ?_
  refine Reg.op0 rfl rfl rfl (Does.stn ag25 rfl rfl rfl (by first | rfl | (simp [*]; done)) ho (by simp)) ?_
  rintro _ H1_6 hu1_6
  have z1_6 := hu1_6.size
  replace ho := hu1_6.own
  first | rw [over (by first | rfl | (simp; done))] at ho | skip
  refine Reg.nil ?_
  refine At.fall rfl Try.func52 rfl ?_
  have u := Upd_trans hu0_3 hu1_6
  exact ⟨hM.set u.own rfl u.but, u.but⟩
theorem goesR_ok {H : Heap} (hM : Qs L N m B G s H fr A cap ev nd pe vc dn o1 o2) (node : Int) (p : Value) (hp : p.oneCell' = true) :
    Ret Try.prog 19 [ptr m 0, I node, p] H (fun _ H' => Qs L N m B G s H' fr A cap true node p vc dn o1 o2 ∧ But (fun g => g = m) H H') := by
  have ho := hM.own
  refine Ret.of_at (N := 17) Try.call19 Try.func19 rfl rfl rfl ?_
  have hE := Ext.refl H
  have z_ho := ho.lt
  refine At.region rfl rfl ?_
  refine Reg.pur rfl rfl rfl rfl (Pur.mv rfl) ?_
  refine Reg.pur rfl rfl rfl rfl (Pur.nilc rfl) ?_
  refine Reg.pur rfl rfl rfl rfl (Pur.fld _ fo60_2 rfl) ?_
  refine Reg.op0 rfl rfl rfl (Does.st sc4 rfl rfl rfl ho (by simp)) ?_
  rintro _ H0_3 hu0_3
  have z0_3 := hu0_3.size
  replace ho := hu0_3.own
  refine Reg.nil ?_
  refine At.region rfl rfl ?_
  refine Reg.pur rfl rfl rfl rfl (Pur.mv rfl) ?_
  refine Reg.pur rfl rfl rfl rfl (Pur.mv rfl) ?_
  refine Reg.pur rfl rfl rfl rfl (Pur.nilc rfl) ?_
  refine Reg.pur rfl rfl rfl rfl (Pur.fld _ fo60_3 rfl) ?_
  refine Reg.op0 rfl rfl rfl (Does.st sc3 rfl rfl rfl ho (by simp)) ?_
  rintro _ H1_4 hu1_4
  have z1_4 := hu1_4.size
  replace ho := hu1_4.own
  refine Reg.nil ?_
  refine At.region rfl rfl ?_
  refine Reg.pur rfl rfl rfl rfl (Pur.mv rfl) ?_
  refine Reg.pur rfl rfl rfl rfl (Pur.mv rfl) ?_
  refine Reg.pur rfl rfl rfl rfl (Pur.nilc rfl) ?_
  refine Reg.pur rfl rfl rfl rfl (Pur.fld _ fo60_4 rfl) ?_
  refine Reg.op0 rfl rfl rfl (Does.st sc55 rfl rfl hp ho (by simp)) ?_
  rintro _ H2_4 hu2_4
  have z2_4 := hu2_4.size
  replace ho := hu2_4.own
  refine Reg.nil ?_
  refine At.fall rfl Try.func19 rfl ?_
  have u := Upd_trans (Upd_trans hu0_3 hu1_4) hu2_4
  exact ⟨hM.set u.own hM.v7 u.but, u.but⟩
theorem givesR_ok {H : Heap} (hM : Qs L N m B G s H fr A cap ev nd pe vc dn o1 o2) {vc' : List Value} (h7 : vc'.length = 7) (h1 : ones vc' = true) :
    Ret Try.prog 53 [ptr m 0, .agg vc'.toArray] H (fun _ H' => Qs L N m B G s H' fr A cap false nd pe vc' dn o1 o2 ∧ But (fun g => g = m) H H') := by
  have ho := hM.own
  have z := hM.lt
  obtain ⟨b0, b1, b2, b3, b4, b5, b6, hvc⟩ := sevn hM.v7
  obtain ⟨a0, a1, a2, a3, a4, a5, a6, rfl⟩ := sevn h7
  subst hvc
  refine Ret.of_at (N := 11) Try.call53 Try.func53 rfl rfl rfl ?_
  have hE := Ext.refl H
  have z_ho := ho.lt
  refine At.region rfl rfl ?_
  refine Reg.op rfl rfl rfl rfl (Does.box rfl rfl) ?_
  rintro _ H0_0 ⟨rfl, hn0_0⟩
  have z0_0 := hn0_0.size
  replace ho := ho.ext hn0_0.ext
  have o0_0 := hn0_0.own
  refine Reg.nil ?_
  refine At.region rfl rfl ?_
  refine Reg.pur rfl rfl rfl rfl (Pur.mv rfl) ?_
  refine Reg.pur rfl rfl rfl rfl (Pur.nilc rfl) ?_
  refine Reg.pur rfl rfl rfl rfl (Pur.fld _ fo60_2 rfl) ?_
  refine Reg.op0 rfl rfl rfl (Does.st sc4 rfl rfl rfl ho (by simp)) ?_
  rintro _ H1_3 hu1_3
  have z1_3 := hu1_3.size
  replace o0_0 := o0_0.upw hu1_3 (by omega)
  replace ho := hu1_3.own
  refine Reg.nil ?_
  refine At.region rfl rfl ?_
  refine Reg.pur rfl rfl rfl rfl (Pur.mv rfl) ?_
  refine Reg.lod rfl rfl rfl rfl (Lod.ldn ag58 rfl o0_0.blk (whole rfl) rfl) ?_
  refine Reg.pur rfl rfl rfl rfl (Pur.nilc rfl) ?_
  refine Reg.pur rfl rfl rfl rfl (Pur.fld _ fo60_5 rfl) ?_
  refine Reg.op0 rfl rfl rfl (Does.stn ag58 rfl rfl h1 rfl ho (by simp)) ?_
  rintro _ H2_4 hu2_4
  have z2_4 := hu2_4.size
  replace o0_0 := o0_0.upw hu2_4 (by omega)
  replace ho := hu2_4.own
  first | rw [over (by first | rfl | (simp; done))] at ho | skip
  refine Reg.nil ?_
  refine At.fall rfl Try.func53 rfl ?_
  have u := Upd_trans hu1_3 hu2_4
  exact ⟨(hM.ext hn0_0.ext).set u.own rfl u.but, hn0_0.ext.but.trans u.but⟩
theorem namedR_ok {H : Heap} (hM : Qs L N m B G s H fr A cap ev nd pe vc dn o1 o2) {v env : T} {c : List Value} (hv : rqV G v c) {p : Value} (hp : rqE G env p) (n : Int) :
    Ret Try.prog 56 [p, I n, .agg c.toArray] H (fun r H' => ∃ G', Gle G G' ∧ rqE G' (.env v n env) r ∧ Qs L N m B G' H'.size H' fr A cap ev nd pe vc dn o1 o2 ∧ Ext H H') := by
  obtain ⟨a0, a1, a2, a3, a4, a5, a6, rfl⟩ := sevn (rqV_seven hv)
  have z := hM.lt
  obtain ⟨Ap, rfl⟩ := rqE_one hp
  refine Ret.of_at (N := 12) Try.call56 Try.func56 rfl rfl rfl ?_
  have hE := Ext.refl H
  have z_hE := hE.lt
  refine At.region rfl rfl ?_
  refine Reg.op rfl rfl rfl rfl (Does.box rfl rfl) ?_
  rintro _ H0_0 ⟨rfl, hn0_0⟩
  have z0_0 := hn0_0.size
  replace hE := hE.ext hn0_0.ext
  have o0_0 := hn0_0.own
  refine Reg.pur rfl rfl rfl rfl (Pur.asg rfl) ?_
  refine Reg.nil ?_
  refine At.region rfl rfl ?_
  refine Reg.pur rfl rfl rfl rfl (Pur.mv rfl) ?_
  refine Reg.lod rfl rfl rfl rfl (Lod.ldn ag58 rfl o0_0.blk (whole rfl) rfl) ?_
  refine Reg.pur rfl rfl rfl rfl (Pur.mv rfl) ?_
  refine Reg.pur rfl rfl rfl rfl (Pur.bld (cs := [_, _, _, _, _, _, _, _, _]) pl106 zc106 rfl rfl ⟨rfl, rfl, rfl, rfl, rfl, rfl, rfl, rfl, rfl, rfl⟩) ?_
  refine Reg.op rfl rfl rfl rfl (Does.box rfl rfl) ?_
  rintro _ H1_4 ⟨rfl, hn1_4⟩
  have z1_4 := hn1_4.size
  replace hE := hE.ext hn1_4.ext
  replace o0_0 := o0_0.ext hn1_4.ext
  have o1_4 := hn1_4.own
  refine Reg.pur rfl rfl rfl rfl (Pur.asg rfl) ?_
  refine Reg.nil ?_
  refine At.ret rfl Try.func56 rfl ?_
  have hM2 := hM.ext hE
  have hM3 := hM2.add o1_4.blk (by omega)
  have hle := gset_le (b := H0_0.size) (c := [I n, a0, a1, a2, a3, a4, a5, a6, Value.pointer Ap]) hM2.fz (by omega)
  refine ⟨_, hle, ?_, hM3.re (by omega) (Nat.le_refl _), hE⟩
  simp only [rqE]
  exact ⟨H0_0.size, [a0, a1, a2, a3, a4, a5, a6], .pointer Ap, rfl, gset_at _ _ _, rqV_mono hle _ _ hv, rqE_mono hle _ _ hp⟩
/-- a zero value -/
abbrev zv7 : List Value := [I 0, I 0, I 0, nilp, nils, nilp, nilp]
theorem rqV_nil {G : Gh} {v : T} {c : List Value} (h : rqV G v c) : v ≠ .nil := by
  intro e; subst e; simp only [rqV] at h
theorem rqE_some {G : Gh} {en : T} {Aq : Option Addr} (h : rqE G en (.pointer Aq)) (hn : Aq.isNone = false) : ∃ v n o b c q, en = .env v n o ∧ Aq = some ⟨b, 0, none⟩ ∧ G b = some (I n :: (c ++ [q])) ∧ rqV G v c ∧ rqE G o q ∧ c.length = 7 := by
  cases en <;> simp only [rqE] at h
  · cases h; cases hn
  · obtain ⟨b, c, q, h1, h2, h3, h4⟩ := h
    cases h1
    exact ⟨_, _, _, b, c, q, rfl, rfl, h2, h3, h4, rqV_seven h3⟩
theorem rqE_none {G : Gh} {en : T} {Aq : Option Addr} (h : rqE G en (.pointer Aq)) (hn : Aq.isNone = true) : en = .nil ∧ Aq = none := by
  cases en <;> simp only [rqE] at h
  · cases h; exact ⟨rfl, rfl⟩
  · obtain ⟨b, c, q, h1, h2, h3, h4⟩ := h
    cases h1; cases hn
def FndR (G : Gh) (env : T) (k : Int) (c : List Value) (is : Bool) : Prop := (findN env k = .nil ∧ is = false ∧ c = zv7) ∨ (findN env k ≠ .nil ∧ is = true ∧ rqV G (findN env k) c)
theorem fndR_seven {G : Gh} {en : T} {k : Int} {c : List Value} {b : Bool} (h : FndR G en k c b) : c.length = 7 ∧ ones c = true := by
  rcases h with ⟨_, _, rfl⟩ | ⟨_, _, h⟩
  · exact ⟨rfl, rfl⟩
  · exact ⟨rqV_seven h, rqV_ones h⟩
theorem findR_ok {H : Heap} (hst : ∀ b c, G b = some c → Blk H b c) (k : Int) : ∀ (env : T) (p : Value), rqE G env p →
    Ret Try.prog 51 [p, I k] H (fun r H' => ∃ c b, r = .tuple #[.agg c.toArray, .bool b] ∧ FndR G env k c b ∧ Ext H H') := by
  intro env p hp
  obtain ⟨Ap, rfl⟩ := rqE_one hp
  refine Ret.of_at (N := 23) Try.call51 Try.func51 rfl rfl rfl ?_
  have hE := Ext.refl H
  have z_hE := hE.lt
  refine At.region rfl rfl ?_
  refine Reg.op rfl rfl rfl rfl (Does.alloc zc58) ?_
  rintro _ H0_0 ⟨rfl, hn0_0⟩
  have z0_0 := hn0_0.size
  replace hE := hE.ext hn0_0.ext
  have o0_0 := hn0_0.own
  refine Reg.pur rfl rfl rfl rfl (Pur.asg rfl) ?_
  refine Reg.nil ?_
  refine At.loop (σ := T × Option Addr) (fun x => [(0, .pointer x.2), (1, I k), (4, ptr H.size 0)]) (fun x H' => rqE G x.1 (.pointer x.2) ∧ findN env k = findN x.1 k ∧ Own H' H.size zv7 ∧ Ext H H') (fun x => SizeOf.sizeOf x.1) (env, Ap) rfl ⟨rfl, rfl, rfl, trivial⟩ ⟨hp, rfl, o0_0, hE⟩ ?_
  clear o0_0 hE
  rintro ⟨en, Aq⟩ H2 ⟨hq, hf, o0_0, hE⟩ ih
  dsimp only at hq hf ih ⊢
  have z_hE := hE.lt
  have z_o0_0 := o0_0.lt
  refine At.region rfl rfl ?_
  refine Reg.pur rfl rfl rfl rfl (Pur.mv rfl) ?_
  refine Reg.pur rfl rfl rfl rfl (Pur.nePN isPt55 rfl rfl) ?_
  refine Reg.nil ?_
  refine At.cond rfl rfl (fun q7 => ?_) (fun q7 => ?_)
  · first | (simp only [decide_eq_true_eq, decide_eq_false_iff_not, Bool.not_eq_true', Bool.not_eq_false', ne_eq, Decidable.not_not, Bool.not_eq_true, Bool.not_eq_false] at q7) | (dsimp only at q7) | skip
    obtain ⟨v, n, o, b, c, q, rfl, rfl, hG, hv, ho, h7⟩ := rqE_some hq (by simpa using q7)
    have hB := (hst _ _ hG).ext hE
    have zB := (hst _ _ hG).lt
    obtain ⟨Ao, rfl⟩ := rqE_one ho
    obtain ⟨a0, a1, a2, a3, a4, a5, a6, rfl⟩ := sevn h7
    have h1 := rqV_ones hv
    refine At.region rfl rfl ?_
    refine Reg.pur rfl rfl rfl rfl (Pur.mv rfl) ?_
    refine Reg.pur rfl rfl rfl rfl (Pur.nilc rfl) ?_
    refine Reg.pur rfl rfl rfl rfl (Pur.fld _ fo106_0 rfl) ?_
    refine Reg.lod rfl rfl rfl rfl (Lod.ld sc3 rfl hB rfl) ?_
    refine Reg.pur rfl rfl rfl rfl (Pur.mv rfl) ?_
    refine Reg.pur rfl rfl rfl rfl (Pur.eql rfl rfl) ?_
    refine Reg.nil ?_
    refine At.cond rfl rfl (fun q13 => ?_) (fun q13 => ?_)
    · first | (simp only [decide_eq_true_eq, decide_eq_false_iff_not, Bool.not_eq_true', Bool.not_eq_false', ne_eq, Decidable.not_not, Bool.not_eq_true, Bool.not_eq_false] at q13) | (dsimp only at q13) | skip
      refine At.region rfl rfl ?_
      refine Reg.pur rfl rfl rfl rfl (Pur.mv rfl) ?_
      refine Reg.pur rfl rfl rfl rfl (Pur.nilc rfl) ?_
      refine Reg.pur rfl rfl rfl rfl (Pur.fld _ fo106_1 rfl) ?_
      refine Reg.lod rfl rfl rfl rfl (Lod.ldn ag58 rfl hB rfl rfl) ?_
      refine Reg.op0 rfl rfl rfl (Does.stn ag58 rfl rfl h1 rfl o0_0 (by simp)) ?_
      rintro _ H3_4 hu3_4
      have z3_4 := hu3_4.size
      replace hE := hE.upw hu3_4 (by omega)
      replace o0_0 := hu3_4.own
      first | rw [over (by first | rfl | (simp; done))] at o0_0 | skip
      refine Reg.pur rfl rfl rfl rfl (Pur.asg rfl) ?_
      refine Reg.nil ?_
      refine At.retC rfl Try.func51 ⟨_, _, _, _, rfl, rfl, ⟨_, o0_0.blk, .inr ⟨_, _, ag58, (by first | exact whole rfl | exact whole (by simp [*])), (by first | rfl | simp [*]), rfl⟩⟩, ⟨_, _, rfl, rfl, rfl⟩⟩ ?_
      have hfv : findN (.env v n o) k = v := if_pos q13
      exact ⟨_, true, rfl, .inr ⟨by rw [hf, hfv]; exact rqV_nil hv, rfl, by rw [hf, hfv]; exact hv⟩, hE⟩
    first | (simp only [decide_eq_true_eq, decide_eq_false_iff_not, Bool.not_eq_true', Bool.not_eq_false', ne_eq, Decidable.not_not, Bool.not_eq_true, Bool.not_eq_false] at q13) | (dsimp only at q13) | skip
    refine At.region rfl rfl ?_
    refine Reg.pur rfl rfl rfl rfl (Pur.mv rfl) ?_
    refine Reg.pur rfl rfl rfl rfl (Pur.nilc rfl) ?_
    refine Reg.pur rfl rfl rfl rfl (Pur.fld _ fo106_2 rfl) ?_
    refine Reg.lod rfl rfl rfl rfl (Lod.ld sc55 rfl hB rfl) ?_
    refine Reg.pur rfl rfl rfl rfl (Pur.asg rfl) ?_
    refine Reg.nil ?_
    have hfo : findN (.env v n o) k = findN o k := if_neg q13
    exact At.meets rfl (ih (o, Ao) H2 ⟨ho, by rw [hf, hfo], o0_0, hE⟩ (by (show SizeOf.sizeOf o < SizeOf.sizeOf (T.env v n o)); simp; omega)) ⟨rfl, rfl, rfl, trivial⟩
  first | (simp only [decide_eq_true_eq, decide_eq_false_iff_not, Bool.not_eq_true', Bool.not_eq_false', ne_eq, Decidable.not_not, Bool.not_eq_true, Bool.not_eq_false] at q7) | (dsimp only at q7) | skip
  refine At.region rfl rfl ?_
  refine Reg.pur rfl rfl rfl rfl (Pur.bld (cs := [_, _, _, _, _, _, _]) pl58 zc58 rfl rfl ⟨rfl, rfl, rfl, rfl, rfl, rfl, rfl, rfl⟩) ?_
  refine Reg.op0 rfl rfl rfl (Does.stn ag58 rfl rfl rfl rfl o0_0 (by simp)) ?_
  rintro _ H5_1 hu5_1
  have z5_1 := hu5_1.size
  replace hE := hE.upw hu5_1 (by omega)
  replace o0_0 := hu5_1.own
  first | rw [over (by first | rfl | (simp; done))] at o0_0 | skip
  refine Reg.pur rfl rfl rfl rfl (Pur.asg rfl) ?_
  refine Reg.nil ?_
  refine At.retC rfl Try.func51 ⟨_, _, _, _, rfl, rfl, ⟨_, o0_0.blk, .inr ⟨_, _, ag58, (by first | exact whole rfl | exact whole (by simp [*])), (by first | rfl | simp [*]), rfl⟩⟩, ⟨_, _, rfl, rfl, rfl⟩⟩ ?_
  obtain ⟨rfl, rfl⟩ := rqE_none hq (by simpa using q7)
  exact ⟨_, false, rfl, .inl ⟨hf, rfl, rfl⟩, hE⟩
theorem truth_ok (b : Bool) (H : Heap) : Ret Try.prog 61 [.bool b] H (fun v H' => v = .agg (#[I 1, I (if b then 1 else 0), I 0, nilp, nils, nilp, nilp] : Array Value) ∧ Ext H H') := by
  refine Ret.of_at (N := 6) Try.call61 Try.func61 rfl rfl rfl ?_
  have hE := Ext.refl H
  refine At.region rfl rfl ?_
  refine Reg.op rfl rfl rfl rfl (Does.alloc zc58) ?_
  rintro _ H0_0 ⟨rfl, hn0_0⟩
  have z0_0 := hn0_0.size
  replace hE := hE.ext hn0_0.ext
  have o0_0 := hn0_0.own
  refine Reg.nil ?_
  refine At.region rfl rfl ?_
  refine Reg.pur rfl rfl rfl rfl (Pur.mv rfl) ?_
  refine Reg.nil ?_
  refine At.cond rfl rfl (fun q3 => ?_) (fun q3 => ?_)
  · first | (simp only [decide_eq_true_eq, decide_eq_false_iff_not, Bool.not_eq_true', Bool.not_eq_false', ne_eq, Decidable.not_not, Bool.not_eq_true, Bool.not_eq_false] at q3) | (dsimp only at q3) | skip
    refine At.region rfl rfl ?_
    refine Reg.pur rfl rfl rfl rfl (Pur.bld (cs := [_, _, _, _, _, _, _]) pl58 zc58 rfl rfl ⟨rfl, rfl, rfl, rfl, rfl, rfl, rfl, rfl⟩) ?_
    refine Reg.op0 rfl rfl rfl (Does.stn ag58 rfl rfl rfl rfl o0_0 (by simp)) ?_
    rintro _ H2_1 hu2_1
    have z2_1 := hu2_1.size
    replace hE := hE.upw hu2_1 (by omega)
    replace o0_0 := hu2_1.own
    first | rw [over (by first | rfl | (simp; done))] at o0_0 | skip
    refine Reg.nil ?_
    refine At.retC rfl Try.func61 ⟨_, _, _, _, rfl, rfl, ⟨_, o0_0.blk, .inr ⟨_, _, ag58, (by first | exact whole rfl | exact whole (by simp [*])), (by first | rfl | simp [*]), rfl⟩⟩, rfl⟩ ?_
    exact ⟨by rw [q3]; rfl, hE⟩
  first | (simp only [decide_eq_true_eq, decide_eq_false_iff_not, Bool.not_eq_true', Bool.not_eq_false', ne_eq, Decidable.not_not, Bool.not_eq_true, Bool.not_eq_false] at q3) | (dsimp only at q3) | skip
  refine At.region rfl rfl ?_
  refine Reg.pur rfl rfl rfl rfl (Pur.bld (cs := [_, _, _, _, _, _, _]) pl58 zc58 rfl rfl ⟨rfl, rfl, rfl, rfl, rfl, rfl, rfl, rfl⟩) ?_
  refine Reg.op0 rfl rfl rfl (Does.stn ag58 rfl rfl rfl rfl o0_0 (by simp)) ?_
  rintro _ H3_1 hu3_1
  have z3_1 := hu3_1.size
  replace hE := hE.upw hu3_1 (by omega)
  replace o0_0 := hu3_1.own
  first | rw [over (by first | rfl | (simp; done))] at o0_0 | skip
  refine Reg.nil ?_
  refine At.retC rfl Try.func61 ⟨_, _, _, _, rfl, rfl, ⟨_, o0_0.blk, .inr ⟨_, _, ag58, (by first | exact whole rfl | exact whole (by simp [*])), (by first | rfl | simp [*]), rfl⟩⟩, rfl⟩ ?_
  exact ⟨by rw [q3]; rfl, hE⟩
theorem primR_ok (k a b : Int) (hk0 : 0 ≤ k) (hk5 : k ≤ 5) (H : Heap) : Ret Try.prog 57 [I k, I a, I b] H (fun v H' =>
    v = .tuple #[.agg (if (prm k a b).1 = 3 then zv7 else [I (prm k a b).1, I (prm k a b).2, I 0, nilp, nils, nilp, nilp]).toArray, I (if (prm k a b).1 = 3 then (prm k a b).2 else -1)] ∧ Ext H H') := by
  refine Ret.of_at (N := 52) Try.call57 Try.func57 rfl rfl rfl ?_
  have hE := Ext.refl H
  refine At.region rfl rfl ?_
  refine Reg.op rfl rfl rfl rfl (Does.alloc zc58) ?_
  rintro _ H0_0 ⟨rfl, hn0_0⟩
  have z0_0 := hn0_0.size
  replace hE := hE.ext hn0_0.ext
  have o0_0 := hn0_0.own
  refine Reg.pur rfl rfl rfl rfl (Pur.asg rfl) ?_
  refine Reg.nil ?_
  refine At.region rfl rfl ?_
  refine Reg.pur rfl rfl rfl rfl (Pur.asg rfl) ?_
  refine Reg.nil ?_
  refine At.region rfl rfl ?_
  refine Reg.pur rfl rfl rfl rfl (Pur.mv rfl) ?_
  refine Reg.nil ?_
  refine At.region rfl rfl ?_
  refine Reg.pur rfl rfl rfl rfl (Pur.eql rfl rfl) ?_
  refine Reg.pur rfl rfl rfl rfl (Pur.asg rfl) ?_
  refine Reg.nil ?_
  refine At.cond rfl rfl (fun q14 => ?_) (fun q14 => ?_)
  · first | (simp only [decide_eq_true_eq, decide_eq_false_iff_not, Bool.not_eq_true', Bool.not_eq_false', ne_eq, Decidable.not_not, Bool.not_eq_true, Bool.not_eq_false] at q14) | (dsimp only at q14) | skip
    refine At.region rfl rfl ?_
    refine Reg.pur rfl rfl rfl rfl (Pur.mv rfl) ?_
    refine Reg.pur rfl rfl rfl rfl (Pur.mv rfl) ?_
    first | refine Reg.pur rfl rfl rfl rfl (Pur.add64 rfl rfl (by omega)) ?_ | refine Reg.pur rfl rfl rfl rfl (Pur.add64 rfl rfl (by assumption)) ?_ | refine Reg.pur rfl rfl rfl rfl (Pur.add rfl rfl) ?_
    refine Reg.pur rfl rfl rfl rfl (Pur.asg rfl) ?_
    refine Reg.nil ?_
    refine At.region rfl rfl ?_
    refine Reg.pur rfl rfl rfl rfl (Pur.mv rfl) ?_
    refine Reg.pur rfl rfl rfl rfl (Pur.gtr rfl rfl) ?_
    refine Reg.pur rfl rfl rfl rfl (Pur.mv rfl) ?_
    refine Reg.case 45 rfl (fun q45 => ?_) (fun q45 => ?_)
    · first | (simp only [decide_eq_true_eq, decide_eq_false_iff_not, Bool.not_eq_true', Bool.not_eq_false', ne_eq, Decidable.not_not, Bool.not_eq_true, Bool.not_eq_false] at q45) | (dsimp only at q45) | skip
      refine Reg.skip rfl rfl rfl rfl rfl rfl rfl ?_
      refine Reg.skip rfl rfl rfl rfl rfl rfl rfl ?_
      refine Reg.pur rfl rfl rfl rfl (Pur.pickT rfl rfl) ?_
      refine Reg.nil ?_
      refine At.condT rfl rfl rfl ?_
      refine At.region rfl rfl ?_
      refine Reg.pur rfl rfl rfl rfl (Pur.bld (cs := [_, _, _, _, _, _, _]) pl58 zc58 rfl rfl ⟨rfl, rfl, rfl, rfl, rfl, rfl, rfl, rfl⟩) ?_
      refine Reg.op0 rfl rfl rfl (Does.stn ag58 rfl rfl rfl rfl o0_0 (by simp)) ?_
      rintro _ H17_1 hu17_1
      have z17_1 := hu17_1.size
      replace hE := hE.upw hu17_1 (by omega)
      replace o0_0 := hu17_1.own
      first | rw [over (by first | rfl | (simp; done))] at o0_0 | skip
      refine Reg.pur rfl rfl rfl rfl (Pur.asg rfl) ?_
      refine Reg.nil ?_
      refine At.retC rfl Try.func57 ⟨_, _, _, _, rfl, rfl, ⟨_, o0_0.blk, .inr ⟨_, _, ag58, (by first | exact whole rfl | exact whole (by simp [*])), (by first | rfl | simp [*]), rfl⟩⟩, ⟨_, _, rfl, rfl, rfl⟩⟩ ?_
      refine ⟨?_, hE⟩
      have hr : rkn k a b = wrp (a + b) := by unfold rkn; rw [if_neg (by omega), if_neg (by omega), if_neg (by omega)]
      have hp := prm_num (k := k) (a := a) (b := b) (by omega) (by omega) (by omega)
      rw [hr] at hp
      unfold wrp at hp
      first | (rw [if_pos (by omega)] at hp; rw [hp]; rfl) | (rw [if_neg (by omega)] at hp; rw [hp]; rfl)
    first | (simp only [decide_eq_true_eq, decide_eq_false_iff_not, Bool.not_eq_true', Bool.not_eq_false', ne_eq, Decidable.not_not, Bool.not_eq_true, Bool.not_eq_false] at q45) | (dsimp only at q45) | skip
    refine Reg.gpur rfl rfl rfl rfl rfl rfl (Pur.mv rfl) ?_
    refine Reg.gpur rfl rfl rfl rfl rfl rfl (Pur.lss rfl rfl) ?_
    refine Reg.pur rfl rfl rfl rfl (Pur.pickF rfl rfl) ?_
    refine Reg.nil ?_
    refine At.cond rfl rfl (fun q48 => ?_) (fun q48 => ?_)
    · first | (simp only [decide_eq_true_eq, decide_eq_false_iff_not, Bool.not_eq_true', Bool.not_eq_false', ne_eq, Decidable.not_not, Bool.not_eq_true, Bool.not_eq_false] at q48) | (dsimp only at q48) | skip
      refine At.region rfl rfl ?_
      refine Reg.pur rfl rfl rfl rfl (Pur.bld (cs := [_, _, _, _, _, _, _]) pl58 zc58 rfl rfl ⟨rfl, rfl, rfl, rfl, rfl, rfl, rfl, rfl⟩) ?_
      refine Reg.op0 rfl rfl rfl (Does.stn ag58 rfl rfl rfl rfl o0_0 (by simp)) ?_
      rintro _ H17_1 hu17_1
      have z17_1 := hu17_1.size
      replace hE := hE.upw hu17_1 (by omega)
      replace o0_0 := hu17_1.own
      first | rw [over (by first | rfl | (simp; done))] at o0_0 | skip
      refine Reg.pur rfl rfl rfl rfl (Pur.asg rfl) ?_
      refine Reg.nil ?_
      refine At.retC rfl Try.func57 ⟨_, _, _, _, rfl, rfl, ⟨_, o0_0.blk, .inr ⟨_, _, ag58, (by first | exact whole rfl | exact whole (by simp [*])), (by first | rfl | simp [*]), rfl⟩⟩, ⟨_, _, rfl, rfl, rfl⟩⟩ ?_
      refine ⟨?_, hE⟩
      have hr : rkn k a b = wrp (a + b) := by unfold rkn; rw [if_neg (by omega), if_neg (by omega), if_neg (by omega)]
      have hp := prm_num (k := k) (a := a) (b := b) (by omega) (by omega) (by omega)
      rw [hr] at hp
      unfold wrp at hp
      first | (rw [if_pos (by omega)] at hp; rw [hp]; rfl) | (rw [if_neg (by omega)] at hp; rw [hp]; rfl)
    first | (simp only [decide_eq_true_eq, decide_eq_false_iff_not, Bool.not_eq_true', Bool.not_eq_false', ne_eq, Decidable.not_not, Bool.not_eq_true, Bool.not_eq_false] at q48) | (dsimp only at q48) | skip
    refine At.region rfl rfl ?_
    refine Reg.pur rfl rfl rfl rfl (Pur.mv rfl) ?_
    refine Reg.pur rfl rfl rfl rfl (Pur.bld (cs := [_, _, _, _, _, _, _]) pl58 zc58 rfl rfl ⟨rfl, rfl, rfl, rfl, rfl, rfl, rfl, rfl⟩) ?_
    refine Reg.op0 rfl rfl rfl (Does.stn ag58 rfl rfl rfl rfl o0_0 (by simp)) ?_
    rintro _ H18_2 hu18_2
    have z18_2 := hu18_2.size
    replace hE := hE.upw hu18_2 (by omega)
    replace o0_0 := hu18_2.own
    first | rw [over (by first | rfl | (simp; done))] at o0_0 | skip
    refine Reg.pur rfl rfl rfl rfl (Pur.asg rfl) ?_
    refine Reg.nil ?_
    refine At.retC rfl Try.func57 ⟨_, _, _, _, rfl, rfl, ⟨_, o0_0.blk, .inr ⟨_, _, ag58, (by first | exact whole rfl | exact whole (by simp [*])), (by first | rfl | simp [*]), rfl⟩⟩, ⟨_, _, rfl, rfl, rfl⟩⟩ ?_
    refine ⟨?_, hE⟩
    have hr : rkn k a b = wrp (a + b) := by unfold rkn; rw [if_neg (by omega), if_neg (by omega), if_neg (by omega)]
    have hp := prm_num (k := k) (a := a) (b := b) (by omega) (by omega) (by omega)
    rw [hr] at hp
    unfold wrp at hp
    first | (rw [if_pos (by omega)] at hp; rw [hp]; rfl) | (rw [if_neg (by omega)] at hp; rw [hp]; rfl)
  first | (simp only [decide_eq_true_eq, decide_eq_false_iff_not, Bool.not_eq_true', Bool.not_eq_false', ne_eq, Decidable.not_not, Bool.not_eq_true, Bool.not_eq_false] at q14) | (dsimp only at q14) | skip
  refine At.region rfl rfl ?_
  refine Reg.pur rfl rfl rfl rfl (Pur.eql rfl rfl) ?_
  refine Reg.pur rfl rfl rfl rfl (Pur.asg rfl) ?_
  refine Reg.nil ?_
  refine At.cond rfl rfl (fun q19 => ?_) (fun q19 => ?_)
  · first | (simp only [decide_eq_true_eq, decide_eq_false_iff_not, Bool.not_eq_true', Bool.not_eq_false', ne_eq, Decidable.not_not, Bool.not_eq_true, Bool.not_eq_false] at q19) | (dsimp only at q19) | skip
    refine At.region rfl rfl ?_
    refine Reg.pur rfl rfl rfl rfl (Pur.mv rfl) ?_
    refine Reg.pur rfl rfl rfl rfl (Pur.mv rfl) ?_
    first | refine Reg.pur rfl rfl rfl rfl (Pur.sub64 rfl rfl (by omega)) ?_ | refine Reg.pur rfl rfl rfl rfl (Pur.sub64 rfl rfl (by assumption)) ?_ | refine Reg.pur rfl rfl rfl rfl (Pur.sub rfl rfl) ?_
    refine Reg.pur rfl rfl rfl rfl (Pur.asg rfl) ?_
    refine Reg.nil ?_
    refine At.region rfl rfl ?_
    refine Reg.pur rfl rfl rfl rfl (Pur.mv rfl) ?_
    refine Reg.pur rfl rfl rfl rfl (Pur.gtr rfl rfl) ?_
    refine Reg.pur rfl rfl rfl rfl (Pur.mv rfl) ?_
    refine Reg.case 45 rfl (fun q45 => ?_) (fun q45 => ?_)
    · first | (simp only [decide_eq_true_eq, decide_eq_false_iff_not, Bool.not_eq_true', Bool.not_eq_false', ne_eq, Decidable.not_not, Bool.not_eq_true, Bool.not_eq_false] at q45) | (dsimp only at q45) | skip
      refine Reg.skip rfl rfl rfl rfl rfl rfl rfl ?_
      refine Reg.skip rfl rfl rfl rfl rfl rfl rfl ?_
      refine Reg.pur rfl rfl rfl rfl (Pur.pickT rfl rfl) ?_
      refine Reg.nil ?_
      refine At.condT rfl rfl rfl ?_
      refine At.region rfl rfl ?_
      refine Reg.pur rfl rfl rfl rfl (Pur.bld (cs := [_, _, _, _, _, _, _]) pl58 zc58 rfl rfl ⟨rfl, rfl, rfl, rfl, rfl, rfl, rfl, rfl⟩) ?_
      refine Reg.op0 rfl rfl rfl (Does.stn ag58 rfl rfl rfl rfl o0_0 (by simp)) ?_
      rintro _ H17_1 hu17_1
      have z17_1 := hu17_1.size
      replace hE := hE.upw hu17_1 (by omega)
      replace o0_0 := hu17_1.own
      first | rw [over (by first | rfl | (simp; done))] at o0_0 | skip
      refine Reg.pur rfl rfl rfl rfl (Pur.asg rfl) ?_
      refine Reg.nil ?_
      refine At.retC rfl Try.func57 ⟨_, _, _, _, rfl, rfl, ⟨_, o0_0.blk, .inr ⟨_, _, ag58, (by first | exact whole rfl | exact whole (by simp [*])), (by first | rfl | simp [*]), rfl⟩⟩, ⟨_, _, rfl, rfl, rfl⟩⟩ ?_
      refine ⟨?_, hE⟩
      have hr : rkn k a b = wrp (a - b) := by unfold rkn; rw [if_neg (by omega), if_neg (by omega), if_pos (by omega)]
      have hp := prm_num (k := k) (a := a) (b := b) (by omega) (by omega) (by omega)
      rw [hr] at hp
      unfold wrp at hp
      first | (rw [if_pos (by omega)] at hp; rw [hp]; rfl) | (rw [if_neg (by omega)] at hp; rw [hp]; rfl)
    first | (simp only [decide_eq_true_eq, decide_eq_false_iff_not, Bool.not_eq_true', Bool.not_eq_false', ne_eq, Decidable.not_not, Bool.not_eq_true, Bool.not_eq_false] at q45) | (dsimp only at q45) | skip
    refine Reg.gpur rfl rfl rfl rfl rfl rfl (Pur.mv rfl) ?_
    refine Reg.gpur rfl rfl rfl rfl rfl rfl (Pur.lss rfl rfl) ?_
    refine Reg.pur rfl rfl rfl rfl (Pur.pickF rfl rfl) ?_
    refine Reg.nil ?_
    refine At.cond rfl rfl (fun q48 => ?_) (fun q48 => ?_)
    · first | (simp only [decide_eq_true_eq, decide_eq_false_iff_not, Bool.not_eq_true', Bool.not_eq_false', ne_eq, Decidable.not_not, Bool.not_eq_true, Bool.not_eq_false] at q48) | (dsimp only at q48) | skip
      refine At.region rfl rfl ?_
      refine Reg.pur rfl rfl rfl rfl (Pur.bld (cs := [_, _, _, _, _, _, _]) pl58 zc58 rfl rfl ⟨rfl, rfl, rfl, rfl, rfl, rfl, rfl, rfl⟩) ?_
      refine Reg.op0 rfl rfl rfl (Does.stn ag58 rfl rfl rfl rfl o0_0 (by simp)) ?_
      rintro _ H17_1 hu17_1
      have z17_1 := hu17_1.size
      replace hE := hE.upw hu17_1 (by omega)
      replace o0_0 := hu17_1.own
      first | rw [over (by first | rfl | (simp; done))] at o0_0 | skip
      refine Reg.pur rfl rfl rfl rfl (Pur.asg rfl) ?_
      refine Reg.nil ?_
      refine At.retC rfl Try.func57 ⟨_, _, _, _, rfl, rfl, ⟨_, o0_0.blk, .inr ⟨_, _, ag58, (by first | exact whole rfl | exact whole (by simp [*])), (by first | rfl | simp [*]), rfl⟩⟩, ⟨_, _, rfl, rfl, rfl⟩⟩ ?_
      refine ⟨?_, hE⟩
      have hr : rkn k a b = wrp (a - b) := by unfold rkn; rw [if_neg (by omega), if_neg (by omega), if_pos (by omega)]
      have hp := prm_num (k := k) (a := a) (b := b) (by omega) (by omega) (by omega)
      rw [hr] at hp
      unfold wrp at hp
      first | (rw [if_pos (by omega)] at hp; rw [hp]; rfl) | (rw [if_neg (by omega)] at hp; rw [hp]; rfl)
    first | (simp only [decide_eq_true_eq, decide_eq_false_iff_not, Bool.not_eq_true', Bool.not_eq_false', ne_eq, Decidable.not_not, Bool.not_eq_true, Bool.not_eq_false] at q48) | (dsimp only at q48) | skip
    refine At.region rfl rfl ?_
    refine Reg.pur rfl rfl rfl rfl (Pur.mv rfl) ?_
    refine Reg.pur rfl rfl rfl rfl (Pur.bld (cs := [_, _, _, _, _, _, _]) pl58 zc58 rfl rfl ⟨rfl, rfl, rfl, rfl, rfl, rfl, rfl, rfl⟩) ?_
    refine Reg.op0 rfl rfl rfl (Does.stn ag58 rfl rfl rfl rfl o0_0 (by simp)) ?_
    rintro _ H18_2 hu18_2
    have z18_2 := hu18_2.size
    replace hE := hE.upw hu18_2 (by omega)
    replace o0_0 := hu18_2.own
    first | rw [over (by first | rfl | (simp; done))] at o0_0 | skip
    refine Reg.pur rfl rfl rfl rfl (Pur.asg rfl) ?_
    refine Reg.nil ?_
    refine At.retC rfl Try.func57 ⟨_, _, _, _, rfl, rfl, ⟨_, o0_0.blk, .inr ⟨_, _, ag58, (by first | exact whole rfl | exact whole (by simp [*])), (by first | rfl | simp [*]), rfl⟩⟩, ⟨_, _, rfl, rfl, rfl⟩⟩ ?_
    refine ⟨?_, hE⟩
    have hr : rkn k a b = wrp (a - b) := by unfold rkn; rw [if_neg (by omega), if_neg (by omega), if_pos (by omega)]
    have hp := prm_num (k := k) (a := a) (b := b) (by omega) (by omega) (by omega)
    rw [hr] at hp
    unfold wrp at hp
    first | (rw [if_pos (by omega)] at hp; rw [hp]; rfl) | (rw [if_neg (by omega)] at hp; rw [hp]; rfl)
  first | (simp only [decide_eq_true_eq, decide_eq_false_iff_not, Bool.not_eq_true', Bool.not_eq_false', ne_eq, Decidable.not_not, Bool.not_eq_true, Bool.not_eq_false] at q19) | (dsimp only at q19) | skip
  refine At.region rfl rfl ?_
  refine Reg.pur rfl rfl rfl rfl (Pur.eql rfl rfl) ?_
  refine Reg.pur rfl rfl rfl rfl (Pur.asg rfl) ?_
  refine Reg.nil ?_
  refine At.cond rfl rfl (fun q24 => ?_) (fun q24 => ?_)
  · first | (simp only [decide_eq_true_eq, decide_eq_false_iff_not, Bool.not_eq_true', Bool.not_eq_false', ne_eq, Decidable.not_not, Bool.not_eq_true, Bool.not_eq_false] at q24) | (dsimp only at q24) | skip
    refine At.region rfl rfl ?_
    refine Reg.pur rfl rfl rfl rfl (Pur.mv rfl) ?_
    refine Reg.pur rfl rfl rfl rfl (Pur.mv rfl) ?_
    first | refine Reg.pur rfl rfl rfl rfl (Pur.mul64 rfl rfl (by omega)) ?_ | refine Reg.pur rfl rfl rfl rfl (Pur.mul64 rfl rfl (by assumption)) ?_ | refine Reg.pur rfl rfl rfl rfl (Pur.mul rfl rfl) ?_
    refine Reg.pur rfl rfl rfl rfl (Pur.asg rfl) ?_
    refine Reg.nil ?_
    refine At.region rfl rfl ?_
    refine Reg.pur rfl rfl rfl rfl (Pur.mv rfl) ?_
    refine Reg.pur rfl rfl rfl rfl (Pur.gtr rfl rfl) ?_
    refine Reg.pur rfl rfl rfl rfl (Pur.mv rfl) ?_
    refine Reg.case 45 rfl (fun q45 => ?_) (fun q45 => ?_)
    · first | (simp only [decide_eq_true_eq, decide_eq_false_iff_not, Bool.not_eq_true', Bool.not_eq_false', ne_eq, Decidable.not_not, Bool.not_eq_true, Bool.not_eq_false] at q45) | (dsimp only at q45) | skip
      refine Reg.skip rfl rfl rfl rfl rfl rfl rfl ?_
      refine Reg.skip rfl rfl rfl rfl rfl rfl rfl ?_
      refine Reg.pur rfl rfl rfl rfl (Pur.pickT rfl rfl) ?_
      refine Reg.nil ?_
      refine At.condT rfl rfl rfl ?_
      refine At.region rfl rfl ?_
      refine Reg.pur rfl rfl rfl rfl (Pur.bld (cs := [_, _, _, _, _, _, _]) pl58 zc58 rfl rfl ⟨rfl, rfl, rfl, rfl, rfl, rfl, rfl, rfl⟩) ?_
      refine Reg.op0 rfl rfl rfl (Does.stn ag58 rfl rfl rfl rfl o0_0 (by simp)) ?_
      rintro _ H17_1 hu17_1
      have z17_1 := hu17_1.size
      replace hE := hE.upw hu17_1 (by omega)
      replace o0_0 := hu17_1.own
      first | rw [over (by first | rfl | (simp; done))] at o0_0 | skip
      refine Reg.pur rfl rfl rfl rfl (Pur.asg rfl) ?_
      refine Reg.nil ?_
      refine At.retC rfl Try.func57 ⟨_, _, _, _, rfl, rfl, ⟨_, o0_0.blk, .inr ⟨_, _, ag58, (by first | exact whole rfl | exact whole (by simp [*])), (by first | rfl | simp [*]), rfl⟩⟩, ⟨_, _, rfl, rfl, rfl⟩⟩ ?_
      refine ⟨?_, hE⟩
      have hr : rkn k a b = wrp (a * b) := by unfold rkn; rw [if_neg (by omega), if_pos (by omega)]
      have hp := prm_num (k := k) (a := a) (b := b) (by omega) (by omega) (by omega)
      rw [hr] at hp
      unfold wrp at hp
      first | (rw [if_pos (by omega)] at hp; rw [hp]; rfl) | (rw [if_neg (by omega)] at hp; rw [hp]; rfl)
    first | (simp only [decide_eq_true_eq, decide_eq_false_iff_not, Bool.not_eq_true', Bool.not_eq_false', ne_eq, Decidable.not_not, Bool.not_eq_true, Bool.not_eq_false] at q45) | (dsimp only at q45) | skip
    refine Reg.gpur rfl rfl rfl rfl rfl rfl (Pur.mv rfl) ?_
    refine Reg.gpur rfl rfl rfl rfl rfl rfl (Pur.lss rfl rfl) ?_
    refine Reg.pur rfl rfl rfl rfl (Pur.pickF rfl rfl) ?_
    refine Reg.nil ?_
    refine At.cond rfl rfl (fun q48 => ?_) (fun q48 => ?_)
    · first | (simp only [decide_eq_true_eq, decide_eq_false_iff_not, Bool.not_eq_true', Bool.not_eq_false', ne_eq, Decidable.not_not, Bool.not_eq_true, Bool.not_eq_false] at q48) | (dsimp only at q48) | skip
      refine At.region rfl rfl ?_
      refine Reg.pur rfl rfl rfl rfl (Pur.bld (cs := [_, _, _, _, _, _, _]) pl58 zc58 rfl rfl ⟨rfl, rfl, rfl, rfl, rfl, rfl, rfl, rfl⟩) ?_
      refine Reg.op0 rfl rfl rfl (Does.stn ag58 rfl rfl rfl rfl o0_0 (by simp)) ?_
      rintro _ H17_1 hu17_1
      have z17_1 := hu17_1.size
      replace hE := hE.upw hu17_1 (by omega)
      replace o0_0 := hu17_1.own
      first | rw [over (by first | rfl | (simp; done))] at o0_0 | skip
      refine Reg.pur rfl rfl rfl rfl (Pur.asg rfl) ?_
      refine Reg.nil ?_
      refine At.retC rfl Try.func57 ⟨_, _, _, _, rfl, rfl, ⟨_, o0_0.blk, .inr ⟨_, _, ag58, (by first | exact whole rfl | exact whole (by simp [*])), (by first | rfl | simp [*]), rfl⟩⟩, ⟨_, _, rfl, rfl, rfl⟩⟩ ?_
      refine ⟨?_, hE⟩
      have hr : rkn k a b = wrp (a * b) := by unfold rkn; rw [if_neg (by omega), if_pos (by omega)]
      have hp := prm_num (k := k) (a := a) (b := b) (by omega) (by omega) (by omega)
      rw [hr] at hp
      unfold wrp at hp
      first | (rw [if_pos (by omega)] at hp; rw [hp]; rfl) | (rw [if_neg (by omega)] at hp; rw [hp]; rfl)
    first | (simp only [decide_eq_true_eq, decide_eq_false_iff_not, Bool.not_eq_true', Bool.not_eq_false', ne_eq, Decidable.not_not, Bool.not_eq_true, Bool.not_eq_false] at q48) | (dsimp only at q48) | skip
    refine At.region rfl rfl ?_
    refine Reg.pur rfl rfl rfl rfl (Pur.mv rfl) ?_
    refine Reg.pur rfl rfl rfl rfl (Pur.bld (cs := [_, _, _, _, _, _, _]) pl58 zc58 rfl rfl ⟨rfl, rfl, rfl, rfl, rfl, rfl, rfl, rfl⟩) ?_
    refine Reg.op0 rfl rfl rfl (Does.stn ag58 rfl rfl rfl rfl o0_0 (by simp)) ?_
    rintro _ H18_2 hu18_2
    have z18_2 := hu18_2.size
    replace hE := hE.upw hu18_2 (by omega)
    replace o0_0 := hu18_2.own
    first | rw [over (by first | rfl | (simp; done))] at o0_0 | skip
    refine Reg.pur rfl rfl rfl rfl (Pur.asg rfl) ?_
    refine Reg.nil ?_
    refine At.retC rfl Try.func57 ⟨_, _, _, _, rfl, rfl, ⟨_, o0_0.blk, .inr ⟨_, _, ag58, (by first | exact whole rfl | exact whole (by simp [*])), (by first | rfl | simp [*]), rfl⟩⟩, ⟨_, _, rfl, rfl, rfl⟩⟩ ?_
    refine ⟨?_, hE⟩
    have hr : rkn k a b = wrp (a * b) := by unfold rkn; rw [if_neg (by omega), if_pos (by omega)]
    have hp := prm_num (k := k) (a := a) (b := b) (by omega) (by omega) (by omega)
    rw [hr] at hp
    unfold wrp at hp
    first | (rw [if_pos (by omega)] at hp; rw [hp]; rfl) | (rw [if_neg (by omega)] at hp; rw [hp]; rfl)
  first | (simp only [decide_eq_true_eq, decide_eq_false_iff_not, Bool.not_eq_true', Bool.not_eq_false', ne_eq, Decidable.not_not, Bool.not_eq_true, Bool.not_eq_false] at q24) | (dsimp only at q24) | skip
  refine At.region rfl rfl ?_
  refine Reg.pur rfl rfl rfl rfl (Pur.eql rfl rfl) ?_
  refine Reg.pur rfl rfl rfl rfl (Pur.asg rfl) ?_
  refine Reg.nil ?_
  refine At.cond rfl rfl (fun q29 => ?_) (fun q29 => ?_)
  · first | (simp only [decide_eq_true_eq, decide_eq_false_iff_not, Bool.not_eq_true', Bool.not_eq_false', ne_eq, Decidable.not_not, Bool.not_eq_true, Bool.not_eq_false] at q29) | (dsimp only at q29) | skip
    refine At.region rfl rfl ?_
    refine Reg.pur rfl rfl rfl rfl (Pur.mv rfl) ?_
    refine Reg.pur rfl rfl rfl rfl (Pur.eql rfl rfl) ?_
    refine Reg.nil ?_
    refine At.cond rfl rfl (fun q32 => ?_) (fun q32 => ?_)
    · first | (simp only [decide_eq_true_eq, decide_eq_false_iff_not, Bool.not_eq_true', Bool.not_eq_false', ne_eq, Decidable.not_not, Bool.not_eq_true, Bool.not_eq_false] at q32) | (dsimp only at q32) | skip
      refine At.region rfl rfl ?_
      refine Reg.pur rfl rfl rfl rfl (Pur.bld (cs := [_, _, _, _, _, _, _]) pl58 zc58 rfl rfl ⟨rfl, rfl, rfl, rfl, rfl, rfl, rfl, rfl⟩) ?_
      refine Reg.op0 rfl rfl rfl (Does.stn ag58 rfl rfl rfl rfl o0_0 (by simp)) ?_
      rintro _ H12_1 hu12_1
      have z12_1 := hu12_1.size
      replace hE := hE.upw hu12_1 (by omega)
      replace o0_0 := hu12_1.own
      first | rw [over (by first | rfl | (simp; done))] at o0_0 | skip
      refine Reg.pur rfl rfl rfl rfl (Pur.asg rfl) ?_
      refine Reg.nil ?_
      refine At.retC rfl Try.func57 ⟨_, _, _, _, rfl, rfl, ⟨_, o0_0.blk, .inr ⟨_, _, ag58, (by first | exact whole rfl | exact whole (by simp [*])), (by first | rfl | simp [*]), rfl⟩⟩, ⟨_, _, rfl, rfl, rfl⟩⟩ ?_
      subst q29
      exact ⟨by rw [prm_dz _ _ q32]; rfl, hE⟩
    first | (simp only [decide_eq_true_eq, decide_eq_false_iff_not, Bool.not_eq_true', Bool.not_eq_false', ne_eq, Decidable.not_not, Bool.not_eq_true, Bool.not_eq_false] at q32) | (dsimp only at q32) | skip
    refine At.region rfl rfl ?_
    refine Reg.pur rfl rfl rfl rfl (Pur.mv rfl) ?_
    refine Reg.pur rfl rfl rfl rfl (Pur.mv rfl) ?_
    refine Reg.pur rfl rfl rfl rfl (Pur.quo rfl rfl (by assumption)) ?_
    refine Reg.pur rfl rfl rfl rfl (Pur.asg rfl) ?_
    refine Reg.nil ?_
    refine At.region rfl rfl ?_
    refine Reg.pur rfl rfl rfl rfl (Pur.mv rfl) ?_
    refine Reg.pur rfl rfl rfl rfl (Pur.gtr rfl rfl) ?_
    refine Reg.pur rfl rfl rfl rfl (Pur.mv rfl) ?_
    refine Reg.case 45 rfl (fun q45 => ?_) (fun q45 => ?_)
    · first | (simp only [decide_eq_true_eq, decide_eq_false_iff_not, Bool.not_eq_true', Bool.not_eq_false', ne_eq, Decidable.not_not, Bool.not_eq_true, Bool.not_eq_false] at q45) | (dsimp only at q45) | skip
      refine Reg.skip rfl rfl rfl rfl rfl rfl rfl ?_
      refine Reg.skip rfl rfl rfl rfl rfl rfl rfl ?_
      refine Reg.pur rfl rfl rfl rfl (Pur.pickT rfl rfl) ?_
      refine Reg.nil ?_
      refine At.condT rfl rfl rfl ?_
      refine At.region rfl rfl ?_
      refine Reg.pur rfl rfl rfl rfl (Pur.bld (cs := [_, _, _, _, _, _, _]) pl58 zc58 rfl rfl ⟨rfl, rfl, rfl, rfl, rfl, rfl, rfl, rfl⟩) ?_
      refine Reg.op0 rfl rfl rfl (Does.stn ag58 rfl rfl rfl rfl o0_0 (by simp)) ?_
      rintro _ H17_1 hu17_1
      have z17_1 := hu17_1.size
      replace hE := hE.upw hu17_1 (by omega)
      replace o0_0 := hu17_1.own
      first | rw [over (by first | rfl | (simp; done))] at o0_0 | skip
      refine Reg.pur rfl rfl rfl rfl (Pur.asg rfl) ?_
      refine Reg.nil ?_
      refine At.retC rfl Try.func57 ⟨_, _, _, _, rfl, rfl, ⟨_, o0_0.blk, .inr ⟨_, _, ag58, (by first | exact whole rfl | exact whole (by simp [*])), (by first | rfl | simp [*]), rfl⟩⟩, ⟨_, _, rfl, rfl, rfl⟩⟩ ?_
      refine ⟨?_, hE⟩
      have hr : rkn k a b = wrp (a.tdiv b) := by unfold rkn; rw [if_pos (by omega)]
      have hp := prm_num (k := k) (a := a) (b := b) (by omega) (by omega) (by omega)
      rw [hr] at hp
      unfold wrp at hp
      first | (rw [if_pos (by omega)] at hp; rw [hp]; rfl) | (rw [if_neg (by omega)] at hp; rw [hp]; rfl)
    first | (simp only [decide_eq_true_eq, decide_eq_false_iff_not, Bool.not_eq_true', Bool.not_eq_false', ne_eq, Decidable.not_not, Bool.not_eq_true, Bool.not_eq_false] at q45) | (dsimp only at q45) | skip
    refine Reg.gpur rfl rfl rfl rfl rfl rfl (Pur.mv rfl) ?_
    refine Reg.gpur rfl rfl rfl rfl rfl rfl (Pur.lss rfl rfl) ?_
    refine Reg.pur rfl rfl rfl rfl (Pur.pickF rfl rfl) ?_
    refine Reg.nil ?_
    refine At.cond rfl rfl (fun q48 => ?_) (fun q48 => ?_)
    · first | (simp only [decide_eq_true_eq, decide_eq_false_iff_not, Bool.not_eq_true', Bool.not_eq_false', ne_eq, Decidable.not_not, Bool.not_eq_true, Bool.not_eq_false] at q48) | (dsimp only at q48) | skip
      refine At.region rfl rfl ?_
      refine Reg.pur rfl rfl rfl rfl (Pur.bld (cs := [_, _, _, _, _, _, _]) pl58 zc58 rfl rfl ⟨rfl, rfl, rfl, rfl, rfl, rfl, rfl, rfl⟩) ?_
      refine Reg.op0 rfl rfl rfl (Does.stn ag58 rfl rfl rfl rfl o0_0 (by simp)) ?_
      rintro _ H17_1 hu17_1
      have z17_1 := hu17_1.size
      replace hE := hE.upw hu17_1 (by omega)
      replace o0_0 := hu17_1.own
      first | rw [over (by first | rfl | (simp; done))] at o0_0 | skip
      refine Reg.pur rfl rfl rfl rfl (Pur.asg rfl) ?_
      refine Reg.nil ?_
      refine At.retC rfl Try.func57 ⟨_, _, _, _, rfl, rfl, ⟨_, o0_0.blk, .inr ⟨_, _, ag58, (by first | exact whole rfl | exact whole (by simp [*])), (by first | rfl | simp [*]), rfl⟩⟩, ⟨_, _, rfl, rfl, rfl⟩⟩ ?_
      refine ⟨?_, hE⟩
      have hr : rkn k a b = wrp (a.tdiv b) := by unfold rkn; rw [if_pos (by omega)]
      have hp := prm_num (k := k) (a := a) (b := b) (by omega) (by omega) (by omega)
      rw [hr] at hp
      unfold wrp at hp
      first | (rw [if_pos (by omega)] at hp; rw [hp]; rfl) | (rw [if_neg (by omega)] at hp; rw [hp]; rfl)
    first | (simp only [decide_eq_true_eq, decide_eq_false_iff_not, Bool.not_eq_true', Bool.not_eq_false', ne_eq, Decidable.not_not, Bool.not_eq_true, Bool.not_eq_false] at q48) | (dsimp only at q48) | skip
    refine At.region rfl rfl ?_
    refine Reg.pur rfl rfl rfl rfl (Pur.mv rfl) ?_
    refine Reg.pur rfl rfl rfl rfl (Pur.bld (cs := [_, _, _, _, _, _, _]) pl58 zc58 rfl rfl ⟨rfl, rfl, rfl, rfl, rfl, rfl, rfl, rfl⟩) ?_
    refine Reg.op0 rfl rfl rfl (Does.stn ag58 rfl rfl rfl rfl o0_0 (by simp)) ?_
    rintro _ H18_2 hu18_2
    have z18_2 := hu18_2.size
    replace hE := hE.upw hu18_2 (by omega)
    replace o0_0 := hu18_2.own
    first | rw [over (by first | rfl | (simp; done))] at o0_0 | skip
    refine Reg.pur rfl rfl rfl rfl (Pur.asg rfl) ?_
    refine Reg.nil ?_
    refine At.retC rfl Try.func57 ⟨_, _, _, _, rfl, rfl, ⟨_, o0_0.blk, .inr ⟨_, _, ag58, (by first | exact whole rfl | exact whole (by simp [*])), (by first | rfl | simp [*]), rfl⟩⟩, ⟨_, _, rfl, rfl, rfl⟩⟩ ?_
    refine ⟨?_, hE⟩
    have hr : rkn k a b = wrp (a.tdiv b) := by unfold rkn; rw [if_pos (by omega)]
    have hp := prm_num (k := k) (a := a) (b := b) (by omega) (by omega) (by omega)
    rw [hr] at hp
    unfold wrp at hp
    first | (rw [if_pos (by omega)] at hp; rw [hp]; rfl) | (rw [if_neg (by omega)] at hp; rw [hp]; rfl)
  first | (simp only [decide_eq_true_eq, decide_eq_false_iff_not, Bool.not_eq_true', Bool.not_eq_false', ne_eq, Decidable.not_not, Bool.not_eq_true, Bool.not_eq_false] at q29) | (dsimp only at q29) | skip
  refine At.region rfl rfl ?_
  refine Reg.pur rfl rfl rfl rfl (Pur.eql rfl rfl) ?_
  refine Reg.pur rfl rfl rfl rfl (Pur.asg rfl) ?_
  refine Reg.nil ?_
  refine At.cond rfl rfl (fun q37 => ?_) (fun q37 => ?_)
  · first | (simp only [decide_eq_true_eq, decide_eq_false_iff_not, Bool.not_eq_true', Bool.not_eq_false', ne_eq, Decidable.not_not, Bool.not_eq_true, Bool.not_eq_false] at q37) | (dsimp only at q37) | skip
    refine At.region rfl rfl ?_
    refine Reg.pur rfl rfl rfl rfl (Pur.mv rfl) ?_
    refine Reg.pur rfl rfl rfl rfl (Pur.mv rfl) ?_
    refine Reg.pur rfl rfl rfl rfl (Pur.eql rfl rfl) ?_
    refine Reg.op rfl rfl rfl rfl (Does.call rfl (truth_ok _ _)) ?_
    rintro _ H15_3 ⟨rfl, hE15_3⟩
    have z15_3 := hE15_3.lt
    replace hE := hE.ext hE15_3
    replace o0_0 := o0_0.ext hE15_3
    refine Reg.op0 rfl rfl rfl (Does.stn ag58 rfl rfl rfl rfl o0_0 (by simp)) ?_
    rintro _ H15_4 hu15_4
    have z15_4 := hu15_4.size
    replace hE := hE.upw hu15_4 (by omega)
    replace o0_0 := hu15_4.own
    first | rw [over (by first | rfl | (simp; done))] at o0_0 | skip
    refine Reg.pur rfl rfl rfl rfl (Pur.asg rfl) ?_
    refine Reg.nil ?_
    refine At.retC rfl Try.func57 ⟨_, _, _, _, rfl, rfl, ⟨_, o0_0.blk, .inr ⟨_, _, ag58, (by first | exact whole rfl | exact whole (by simp [*])), (by first | rfl | simp [*]), rfl⟩⟩, ⟨_, _, rfl, rfl, rfl⟩⟩ ?_
    subst q37
    exact ⟨by rw [prm_eq]; by_cases h : a = b <;> simp [tupl, h], hE⟩
  first | (simp only [decide_eq_true_eq, decide_eq_false_iff_not, Bool.not_eq_true', Bool.not_eq_false', ne_eq, Decidable.not_not, Bool.not_eq_true, Bool.not_eq_false] at q37) | (dsimp only at q37) | skip
  refine At.region rfl rfl ?_
  refine Reg.pur rfl rfl rfl rfl (Pur.mv rfl) ?_
  refine Reg.pur rfl rfl rfl rfl (Pur.mv rfl) ?_
  refine Reg.pur rfl rfl rfl rfl (Pur.lss rfl rfl) ?_
  refine Reg.op rfl rfl rfl rfl (Does.call rfl (truth_ok _ _)) ?_
  rintro _ H3_3 ⟨rfl, hE3_3⟩
  have z3_3 := hE3_3.lt
  replace hE := hE.ext hE3_3
  replace o0_0 := o0_0.ext hE3_3
  refine Reg.op0 rfl rfl rfl (Does.stn ag58 rfl rfl rfl rfl o0_0 (by simp)) ?_
  rintro _ H3_4 hu3_4
  have z3_4 := hu3_4.size
  replace hE := hE.upw hu3_4 (by omega)
  replace o0_0 := hu3_4.own
  first | rw [over (by first | rfl | (simp; done))] at o0_0 | skip
  refine Reg.pur rfl rfl rfl rfl (Pur.asg rfl) ?_
  refine Reg.nil ?_
  refine At.retC rfl Try.func57 ⟨_, _, _, _, rfl, rfl, ⟨_, o0_0.blk, .inr ⟨_, _, ag58, (by first | exact whole rfl | exact whole (by simp [*])), (by first | rfl | simp [*]), rfl⟩⟩, ⟨_, _, rfl, rfl, rfl⟩⟩ ?_
  obtain rfl : k = 5 := by omega
  exact ⟨by rw [prm_lt]; by_cases h : a < b <;> simp [tupl, h], hE⟩
/-- what is seen of a value -/
def seenM : T → Int × Int
  | .num n => (0, n)
  | .tru n => (1, n)
  | .ret _ => (5, 0)
  | .op _ _ _ => (5, 0)
  | _ => (2, 0)
theorem told_seen (v : T) : toldM (.ret v) = seenM v := by cases v <;> rfl
theorem rnum_of {G : Gh} {t : T} {n i : Int} {p q r : Option Addr} {k : Int} (h : rqV G t [I k, I n, I i, .pointer p, nils, .pointer q, .pointer r]) (hk : kd t = 0) : t = .num n := by
  cases t <;> simp only [kd] at hk <;> (try omega)
  · simp only [rqV] at h
  · simp only [rqV, List.cons.injEq, Value.int.injEq, true_and] at h
    rw [h.2.1]
  · simp only [rqV] at h
theorem rtru_of {G : Gh} {t : T} {n i : Int} {p q r : Option Addr} {k : Int} (h : rqV G t [I k, I n, I i, .pointer p, nils, .pointer q, .pointer r]) (hk : kd t = 1) : t = .tru n := by
  cases t <;> simp only [kd] at hk <;> (try omega)
  simp only [rqV, List.cons.injEq, Value.int.injEq, true_and] at h
  rw [h.2.1]
theorem seen_two {t : T} (h : kd t = 2 ∨ kd t = 7 ∨ kd t = 8) : seenM t = (2, 0) := by
  cases t <;> simp only [kd] at h <;> first | rfl | omega
theorem seen_five {G : Gh} {t : T} {c : List Value} (hv : rqV G t c) (h : kd t ≠ 0 ∧ kd t ≠ 1 ∧ kd t ≠ 2 ∧ kd t ≠ 7 ∧ kd t ≠ 8) : seenM t = (5, 0) := by
  cases t <;> simp only [kd] at h <;> first | rfl | omega
theorem kd_in (t : T) : 0 ≤ kd t ∧ kd t ≤ 8 ∧ kd t ≠ 3 ∧ kd t ≠ 4 := by cases t <;> simp [kd]
theorem seen_ok {G : Gh} {v : T} {c : List Value} (hv : rqV G v c) (H : Heap) : Ret Try.prog 33 [.agg c.toArray] H (fun r H' => r = .agg (Is [(seenM v).1, (seenM v).2]).toArray ∧ Ext H H') := by
  obtain ⟨n, i, p, q, r, rfl⟩ := rqV_cells hv
  refine Ret.of_at (N := 23) Try.call33 Try.func33 rfl rfl rfl ?_
  have hE := Ext.refl H
  refine At.region rfl rfl ?_
  refine Reg.op rfl rfl rfl rfl (Does.box rfl rfl) ?_
  rintro _ H0_0 ⟨rfl, hn0_0⟩
  have z0_0 := hn0_0.size
  replace hE := hE.ext hn0_0.ext
  have o0_0 := hn0_0.own
  refine Reg.op rfl rfl rfl rfl (Does.alloc zc25) ?_
  rintro _ H0_1 ⟨rfl, hn0_1⟩
  have z0_1 := hn0_1.size
  replace hE := hE.ext hn0_1.ext
  replace o0_0 := o0_0.ext hn0_1.ext
  have o0_1 := hn0_1.own
  refine Reg.nil ?_
  refine At.region rfl rfl ?_
  refine Reg.pur rfl rfl rfl rfl (Pur.fld _ fo58_0 rfl) ?_
  refine Reg.lod rfl rfl rfl rfl (Lod.ld sc3 rfl o0_0.blk (by first | rfl | (simp; done))) ?_
  refine Reg.nil ?_
  refine At.region rfl rfl ?_
  refine Reg.pur rfl rfl rfl rfl (Pur.eql rfl rfl) ?_
  refine Reg.pur rfl rfl rfl rfl (Pur.asg rfl) ?_
  refine Reg.nil ?_
  refine At.cond rfl rfl (fun q5 => ?_) (fun q5 => ?_)
  · first | (simp only [decide_eq_true_eq, decide_eq_false_iff_not, Bool.not_eq_true', Bool.not_eq_false', ne_eq, Decidable.not_not, Bool.not_eq_true, Bool.not_eq_false] at q5) | (dsimp only at q5) | skip
    refine At.region rfl rfl ?_
    refine Reg.pur rfl rfl rfl rfl (Pur.fld _ fo58_1 rfl) ?_
    refine Reg.lod rfl rfl rfl rfl (Lod.ld sc3 rfl o0_0.blk (by first | rfl | (simp; done))) ?_
    refine Reg.pur rfl rfl rfl rfl (Pur.bld (cs := [_, _]) pl25 zc25 rfl rfl ⟨rfl, rfl, rfl⟩) ?_
    refine Reg.op0 rfl rfl rfl (Does.stn ag25 rfl rfl rfl rfl o0_1 (by simp)) ?_
    rintro _ H3_3 hu3_3
    have z3_3 := hu3_3.size
    replace hE := hE.upw hu3_3 (by omega)
    replace o0_0 := o0_0.upw hu3_3 (by omega)
    replace o0_1 := hu3_3.own
    first | rw [over (by first | rfl | (simp; done))] at o0_1 | skip
    refine Reg.nil ?_
    refine At.retC rfl Try.func33 ⟨_, _, _, _, rfl, rfl, ⟨_, o0_1.blk, .inr ⟨_, _, ag25, (by first | exact whole rfl | exact whole (by simp [*])), (by first | rfl | simp [*]), rfl⟩⟩, rfl⟩ ?_
    obtain rfl := rnum_of hv q5
    exact ⟨rfl, hE⟩
  first | (simp only [decide_eq_true_eq, decide_eq_false_iff_not, Bool.not_eq_true', Bool.not_eq_false', ne_eq, Decidable.not_not, Bool.not_eq_true, Bool.not_eq_false] at q5) | (dsimp only at q5) | skip
  refine At.region rfl rfl ?_
  refine Reg.pur rfl rfl rfl rfl (Pur.eql rfl rfl) ?_
  refine Reg.pur rfl rfl rfl rfl (Pur.asg rfl) ?_
  refine Reg.nil ?_
  refine At.cond rfl rfl (fun q10 => ?_) (fun q10 => ?_)
  · first | (simp only [decide_eq_true_eq, decide_eq_false_iff_not, Bool.not_eq_true', Bool.not_eq_false', ne_eq, Decidable.not_not, Bool.not_eq_true, Bool.not_eq_false] at q10) | (dsimp only at q10) | skip
    refine At.region rfl rfl ?_
    refine Reg.pur rfl rfl rfl rfl (Pur.fld _ fo58_1 rfl) ?_
    refine Reg.lod rfl rfl rfl rfl (Lod.ld sc3 rfl o0_0.blk (by first | rfl | (simp; done))) ?_
    refine Reg.pur rfl rfl rfl rfl (Pur.bld (cs := [_, _]) pl25 zc25 rfl rfl ⟨rfl, rfl, rfl⟩) ?_
    refine Reg.op0 rfl rfl rfl (Does.stn ag25 rfl rfl rfl rfl o0_1 (by simp)) ?_
    rintro _ H5_3 hu5_3
    have z5_3 := hu5_3.size
    replace hE := hE.upw hu5_3 (by omega)
    replace o0_0 := o0_0.upw hu5_3 (by omega)
    replace o0_1 := hu5_3.own
    first | rw [over (by first | rfl | (simp; done))] at o0_1 | skip
    refine Reg.nil ?_
    refine At.retC rfl Try.func33 ⟨_, _, _, _, rfl, rfl, ⟨_, o0_1.blk, .inr ⟨_, _, ag25, (by first | exact whole rfl | exact whole (by simp [*])), (by first | rfl | simp [*]), rfl⟩⟩, rfl⟩ ?_
    obtain rfl := rtru_of hv q10
    exact ⟨rfl, hE⟩
  first | (simp only [decide_eq_true_eq, decide_eq_false_iff_not, Bool.not_eq_true', Bool.not_eq_false', ne_eq, Decidable.not_not, Bool.not_eq_true, Bool.not_eq_false] at q10) | (dsimp only at q10) | skip
  refine At.region rfl rfl ?_
  refine Reg.pur rfl rfl rfl rfl (Pur.eql rfl rfl) ?_
  refine Reg.pur rfl rfl rfl rfl (Pur.asg rfl) ?_
  refine Reg.nil ?_
  refine At.cond rfl rfl (fun q15 => ?_) (fun q15 => ?_)
  · first | (simp only [decide_eq_true_eq, decide_eq_false_iff_not, Bool.not_eq_true', Bool.not_eq_false', ne_eq, Decidable.not_not, Bool.not_eq_true, Bool.not_eq_false] at q15) | (dsimp only at q15) | skip
    refine At.condT rfl rfl (by first | exact q15 | exact decide_eq_true q15 | exact decide_eq_false q15 | simpa using q15) ?_
    refine At.region rfl rfl ?_
    refine Reg.pur rfl rfl rfl rfl (Pur.bld (cs := [_, _]) pl25 zc25 rfl rfl ⟨rfl, rfl, rfl⟩) ?_
    refine Reg.op0 rfl rfl rfl (Does.stn ag25 rfl rfl rfl rfl o0_1 (by simp)) ?_
    rintro _ H11_1 hu11_1
    have z11_1 := hu11_1.size
    replace hE := hE.upw hu11_1 (by omega)
    replace o0_0 := o0_0.upw hu11_1 (by omega)
    replace o0_1 := hu11_1.own
    first | rw [over (by first | rfl | (simp; done))] at o0_1 | skip
    refine Reg.nil ?_
    refine At.retC rfl Try.func33 ⟨_, _, _, _, rfl, rfl, ⟨_, o0_1.blk, .inr ⟨_, _, ag25, (by first | exact whole rfl | exact whole (by simp [*])), (by first | rfl | simp [*]), rfl⟩⟩, rfl⟩ ?_
    have hkd := kd_in v
    rw [seen_two (by omega)]
    exact ⟨rfl, hE⟩
  first | (simp only [decide_eq_true_eq, decide_eq_false_iff_not, Bool.not_eq_true', Bool.not_eq_false', ne_eq, Decidable.not_not, Bool.not_eq_true, Bool.not_eq_false] at q15) | (dsimp only at q15) | skip
  refine At.region rfl rfl ?_
  refine Reg.pur rfl rfl rfl rfl (Pur.eql rfl rfl) ?_
  refine Reg.pur rfl rfl rfl rfl (Pur.asg rfl) ?_
  refine Reg.nil ?_
  refine At.cond rfl rfl (fun q15 => ?_) (fun q15 => ?_)
  · first | (simp only [decide_eq_true_eq, decide_eq_false_iff_not, Bool.not_eq_true', Bool.not_eq_false', ne_eq, Decidable.not_not, Bool.not_eq_true, Bool.not_eq_false] at q15) | (dsimp only at q15) | skip
    refine At.condT rfl rfl (by first | exact q15 | exact decide_eq_true q15 | exact decide_eq_false q15 | simpa using q15) ?_
    refine At.region rfl rfl ?_
    refine Reg.pur rfl rfl rfl rfl (Pur.bld (cs := [_, _]) pl25 zc25 rfl rfl ⟨rfl, rfl, rfl⟩) ?_
    refine Reg.op0 rfl rfl rfl (Does.stn ag25 rfl rfl rfl rfl o0_1 (by simp)) ?_
    rintro _ H11_1 hu11_1
    have z11_1 := hu11_1.size
    replace hE := hE.upw hu11_1 (by omega)
    replace o0_0 := o0_0.upw hu11_1 (by omega)
    replace o0_1 := hu11_1.own
    first | rw [over (by first | rfl | (simp; done))] at o0_1 | skip
    refine Reg.nil ?_
    refine At.retC rfl Try.func33 ⟨_, _, _, _, rfl, rfl, ⟨_, o0_1.blk, .inr ⟨_, _, ag25, (by first | exact whole rfl | exact whole (by simp [*])), (by first | rfl | simp [*]), rfl⟩⟩, rfl⟩ ?_
    have hkd := kd_in v
    rw [seen_two (by omega)]
    exact ⟨rfl, hE⟩
  first | (simp only [decide_eq_true_eq, decide_eq_false_iff_not, Bool.not_eq_true', Bool.not_eq_false', ne_eq, Decidable.not_not, Bool.not_eq_true, Bool.not_eq_false] at q15) | (dsimp only at q15) | skip
  refine At.region rfl rfl ?_
  refine Reg.pur rfl rfl rfl rfl (Pur.eql rfl rfl) ?_
  refine Reg.pur rfl rfl rfl rfl (Pur.asg rfl) ?_
  refine Reg.nil ?_
  refine At.cond rfl rfl (fun q15 => ?_) (fun q15 => ?_)
  · first | (simp only [decide_eq_true_eq, decide_eq_false_iff_not, Bool.not_eq_true', Bool.not_eq_false', ne_eq, Decidable.not_not, Bool.not_eq_true, Bool.not_eq_false] at q15) | (dsimp only at q15) | skip
    refine At.condT rfl rfl (by first | exact q15 | exact decide_eq_true q15 | exact decide_eq_false q15 | simpa using q15) ?_
    refine At.region rfl rfl ?_
    refine Reg.pur rfl rfl rfl rfl (Pur.bld (cs := [_, _]) pl25 zc25 rfl rfl ⟨rfl, rfl, rfl⟩) ?_
    refine Reg.op0 rfl rfl rfl (Does.stn ag25 rfl rfl rfl rfl o0_1 (by simp)) ?_
    rintro _ H11_1 hu11_1
    have z11_1 := hu11_1.size
    replace hE := hE.upw hu11_1 (by omega)
    replace o0_0 := o0_0.upw hu11_1 (by omega)
    replace o0_1 := hu11_1.own
    first | rw [over (by first | rfl | (simp; done))] at o0_1 | skip
    refine Reg.nil ?_
    refine At.retC rfl Try.func33 ⟨_, _, _, _, rfl, rfl, ⟨_, o0_1.blk, .inr ⟨_, _, ag25, (by first | exact whole rfl | exact whole (by simp [*])), (by first | rfl | simp [*]), rfl⟩⟩, rfl⟩ ?_
    have hkd := kd_in v
    rw [seen_two (by omega)]
    exact ⟨rfl, hE⟩
  first | (simp only [decide_eq_true_eq, decide_eq_false_iff_not, Bool.not_eq_true', Bool.not_eq_false', ne_eq, Decidable.not_not, Bool.not_eq_true, Bool.not_eq_false] at q15) | (dsimp only at q15) | skip
  refine At.region rfl rfl ?_
  refine Reg.pur rfl rfl rfl rfl (Pur.eql rfl rfl) ?_
  refine Reg.pur rfl rfl rfl rfl (Pur.asg rfl) ?_
  refine Reg.nil ?_
  refine At.cond rfl rfl (fun q15 => ?_) (fun q15 => ?_)
  · first | (simp only [decide_eq_true_eq, decide_eq_false_iff_not, Bool.not_eq_true', Bool.not_eq_false', ne_eq, Decidable.not_not, Bool.not_eq_true, Bool.not_eq_false] at q15) | (dsimp only at q15) | skip
    refine At.condT rfl rfl (by first | exact q15 | exact decide_eq_true q15 | exact decide_eq_false q15 | simpa using q15) ?_
    refine At.region rfl rfl ?_
    refine Reg.pur rfl rfl rfl rfl (Pur.bld (cs := [_, _]) pl25 zc25 rfl rfl ⟨rfl, rfl, rfl⟩) ?_
    refine Reg.op0 rfl rfl rfl (Does.stn ag25 rfl rfl rfl rfl o0_1 (by simp)) ?_
    rintro _ H11_1 hu11_1
    have z11_1 := hu11_1.size
    replace hE := hE.upw hu11_1 (by omega)
    replace o0_0 := o0_0.upw hu11_1 (by omega)
    replace o0_1 := hu11_1.own
    first | rw [over (by first | rfl | (simp; done))] at o0_1 | skip
    refine Reg.nil ?_
    refine At.retC rfl Try.func33 ⟨_, _, _, _, rfl, rfl, ⟨_, o0_1.blk, .inr ⟨_, _, ag25, (by first | exact whole rfl | exact whole (by simp [*])), (by first | rfl | simp [*]), rfl⟩⟩, rfl⟩ ?_
    have hkd := kd_in v
    rw [seen_two (by omega)]
    exact ⟨rfl, hE⟩
  first | (simp only [decide_eq_true_eq, decide_eq_false_iff_not, Bool.not_eq_true', Bool.not_eq_false', ne_eq, Decidable.not_not, Bool.not_eq_true, Bool.not_eq_false] at q15) | (dsimp only at q15) | skip
  refine At.region rfl rfl ?_
  refine Reg.pur rfl rfl rfl rfl (Pur.eql rfl rfl) ?_
  refine Reg.pur rfl rfl rfl rfl (Pur.asg rfl) ?_
  refine Reg.nil ?_
  refine At.cond rfl rfl (fun q15 => ?_) (fun q15 => ?_)
  · first | (simp only [decide_eq_true_eq, decide_eq_false_iff_not, Bool.not_eq_true', Bool.not_eq_false', ne_eq, Decidable.not_not, Bool.not_eq_true, Bool.not_eq_false] at q15) | (dsimp only at q15) | skip
    refine At.region rfl rfl ?_
    refine Reg.pur rfl rfl rfl rfl (Pur.bld (cs := [_, _]) pl25 zc25 rfl rfl ⟨rfl, rfl, rfl⟩) ?_
    refine Reg.op0 rfl rfl rfl (Does.stn ag25 rfl rfl rfl rfl o0_1 (by simp)) ?_
    rintro _ H11_1 hu11_1
    have z11_1 := hu11_1.size
    replace hE := hE.upw hu11_1 (by omega)
    replace o0_0 := o0_0.upw hu11_1 (by omega)
    replace o0_1 := hu11_1.own
    first | rw [over (by first | rfl | (simp; done))] at o0_1 | skip
    refine Reg.nil ?_
    refine At.retC rfl Try.func33 ⟨_, _, _, _, rfl, rfl, ⟨_, o0_1.blk, .inr ⟨_, _, ag25, (by first | exact whole rfl | exact whole (by simp [*])), (by first | rfl | simp [*]), rfl⟩⟩, rfl⟩ ?_
    have hkd := kd_in v
    rw [seen_two (by omega)]
    exact ⟨rfl, hE⟩
  first | (simp only [decide_eq_true_eq, decide_eq_false_iff_not, Bool.not_eq_true', Bool.not_eq_false', ne_eq, Decidable.not_not, Bool.not_eq_true, Bool.not_eq_false] at q15) | (dsimp only at q15) | skip
  refine At.region rfl rfl ?_
  refine Reg.pur rfl rfl rfl rfl (Pur.bld (cs := [_, _]) pl25 zc25 rfl rfl ⟨rfl, rfl, rfl⟩) ?_
  refine Reg.op0 rfl rfl rfl (Does.stn ag25 rfl rfl rfl rfl o0_1 (by simp)) ?_
  rintro _ H12_1 hu12_1
  have z12_1 := hu12_1.size
  replace hE := hE.upw hu12_1 (by omega)
  replace o0_0 := o0_0.upw hu12_1 (by omega)
  replace o0_1 := hu12_1.own
  first | rw [over (by first | rfl | (simp; done))] at o0_1 | skip
  refine Reg.nil ?_
  refine At.retC rfl Try.func33 ⟨_, _, _, _, rfl, rfl, ⟨_, o0_1.blk, .inr ⟨_, _, ag25, (by first | exact whole rfl | exact whole (by simp [*])), (by first | rfl | simp [*]), rfl⟩⟩, rfl⟩ ?_
  rw [seen_five hv ⟨by omega, by omega, by omega, by omega, by omega⟩]
  exact ⟨rfl, hE⟩
theorem rret_of {G : Gh} {t : T} {n i : Int} {p q r : Option Addr} {k : Int} (h : rqV G t [I k, I n, I i, .pointer p, nils, .pointer q, .pointer r]) (hk : kd t = 5) : ∃ one b d, t = .ret one ∧ q = some ⟨b, 0, none⟩ ∧ G b = some d ∧ rqV G one d := by
  cases t <;> simp only [kd] at hk <;> (try omega)
  simp only [rqV] at h
  obtain ⟨b, d, h, h1, h2⟩ := h
  simp only [List.cons.injEq, Value.int.injEq, Value.pointer.injEq, true_and] at h
  obtain ⟨_, _, _, _, rfl, _⟩ := h
  exact ⟨_, b, d, rfl, rfl, h1, h2⟩
theorem told_no {G : Gh} {v : T} {c : List Value} (hv : rqV G v c) (h : kd v ≠ 5) : toldM v = (5, 0) := by
  cases v <;> first | rfl | exact (h rfl).elim
theorem toldR_ok {G : Gh} {v : T} {c : List Value} (hv : rqV G v c) {H : Heap} (hst : ∀ b c, G b = some c → Blk H b c) : Ret Try.prog 20 [.agg c.toArray] H (fun r H' => r = .agg (Is [(toldM v).1, (toldM v).2]).toArray ∧ Ext H H') := by
  obtain ⟨n, i, p, q, r, rfl⟩ := rqV_cells hv
  refine Ret.of_at (N := 12) Try.call20 Try.func20 rfl rfl rfl ?_
  have hE := Ext.refl H
  refine At.region rfl rfl ?_
  refine Reg.op rfl rfl rfl rfl (Does.box rfl rfl) ?_
  rintro _ H0_0 ⟨rfl, hn0_0⟩
  have z0_0 := hn0_0.size
  replace hE := hE.ext hn0_0.ext
  have o0_0 := hn0_0.own
  refine Reg.op rfl rfl rfl rfl (Does.alloc zc25) ?_
  rintro _ H0_1 ⟨rfl, hn0_1⟩
  have z0_1 := hn0_1.size
  replace hE := hE.ext hn0_1.ext
  replace o0_0 := o0_0.ext hn0_1.ext
  have o0_1 := hn0_1.own
  refine Reg.nil ?_
  refine At.region rfl rfl ?_
  refine Reg.pur rfl rfl rfl rfl (Pur.fld _ fo58_0 rfl) ?_
  refine Reg.lod rfl rfl rfl rfl (Lod.ld sc3 rfl o0_0.blk (by first | rfl | (simp; done))) ?_
  refine Reg.pur rfl rfl rfl rfl (Pur.neq rfl rfl) ?_
  refine Reg.nil ?_
  refine At.cond rfl rfl (fun q5 => ?_) (fun q5 => ?_)
  · first | (simp only [decide_eq_true_eq, decide_eq_false_iff_not, Bool.not_eq_true', Bool.not_eq_false', ne_eq, Decidable.not_not, Bool.not_eq_true, Bool.not_eq_false] at q5) | (dsimp only at q5) | skip
    refine At.region rfl rfl ?_
    refine Reg.pur rfl rfl rfl rfl (Pur.bld (cs := [_, _]) pl25 zc25 rfl rfl ⟨rfl, rfl, rfl⟩) ?_
    refine Reg.op0 rfl rfl rfl (Does.stn ag25 rfl rfl rfl rfl o0_1 (by simp)) ?_
    rintro _ H2_1 hu2_1
    have z2_1 := hu2_1.size
    replace hE := hE.upw hu2_1 (by omega)
    replace o0_0 := o0_0.upw hu2_1 (by omega)
    replace o0_1 := hu2_1.own
    first | rw [over (by first | rfl | (simp; done))] at o0_1 | skip
    refine Reg.nil ?_
    refine At.retC rfl Try.func20 ⟨_, _, _, _, rfl, rfl, ⟨_, o0_1.blk, .inr ⟨_, _, ag25, (by first | exact whole rfl | exact whole (by simp [*])), (by first | rfl | simp [*]), rfl⟩⟩, rfl⟩ ?_
    rw [told_no hv q5]
    exact ⟨rfl, hE⟩
  first | (simp only [decide_eq_true_eq, decide_eq_false_iff_not, Bool.not_eq_true', Bool.not_eq_false', ne_eq, Decidable.not_not, Bool.not_eq_true, Bool.not_eq_false] at q5) | (dsimp only at q5) | skip
  obtain ⟨one, b, d, rfl, rfl, hG, hone⟩ := rret_of hv q5
  have hB := (hst _ _ hG).ext hE
  refine At.region rfl rfl ?_
  refine Reg.pur rfl rfl rfl rfl (Pur.fld _ fo58_5 rfl) ?_
  refine Reg.lod rfl rfl rfl rfl (Lod.ld sc56 rfl o0_0.blk (by first | rfl | (simp; done))) ?_
  refine Reg.pur rfl rfl rfl rfl (Pur.nilc rfl) ?_
  refine Reg.lod rfl rfl rfl rfl (Lod.ldn ag58 rfl hB (whole (rqV_seven hone)) (rqV_seven hone)) ?_
  refine Reg.op rfl rfl rfl rfl (Does.call rfl (seen_ok hone _)) ?_
  rintro _ H3_4 ⟨rfl, hE3_4⟩
  have z3_4 := hE3_4.lt
  replace hE := hE.ext hE3_4
  replace o0_0 := o0_0.ext hE3_4
  replace o0_1 := o0_1.ext hE3_4
  refine Reg.op0 rfl rfl rfl (Does.stn ag25 rfl rfl rfl rfl o0_1 (by simp)) ?_
  rintro _ H3_5 hu3_5
  have z3_5 := hu3_5.size
  replace hE := hE.upw hu3_5 (by omega)
  replace o0_0 := o0_0.upw hu3_5 (by omega)
  replace o0_1 := hu3_5.own
  first | rw [over (by first | rfl | (simp; done))] at o0_1 | skip
  refine Reg.nil ?_
  refine At.retC rfl Try.func20 ⟨_, _, _, _, rfl, rfl, ⟨_, o0_1.blk, .inr ⟨_, _, ag25, (by first | exact whole rfl | exact whole (by simp [*])), (by first | rfl | simp [*]), rfl⟩⟩, rfl⟩ ?_
  rw [told_seen]
  exact ⟨rfl, hE⟩
/-- a slice's last thing is written -/
theorem gs_put {H : Heap} {B n cap : Nat} {el : TypeId} {A : Option Addr} {xs z fc : List Value} {k : Nat} (h : Gs H B el k A cap (n + 1) (xs ++ z)) (hx : xs.length = n * k) (hz : z.length = k) (hf : fc.length = k) :
    ∃ g cs, A = some ⟨g, 0, none⟩ ∧ OwnT H g cs el ∧ n * k + k ≤ cs.length ∧ ∀ H', OwnT H' g (cs.take (n * k) ++ fc ++ cs.drop (n * k + k)) el → Gs H' B el k A cap (n + 1) (xs ++ fc) := by
  obtain ⟨h0, h1 | ⟨g, cap', cur, hv, hB, hb, hn, hm, hs, ht⟩⟩ := h
  · exact absurd h1.2 (Nat.succ_ne_zero n)
  · cases hv
    have hcl : cur.toList.length = cap * k := by simpa using hs
    have hle : n * k + k ≤ cap * k := by
      have := Nat.mul_le_mul_right k hn
      rw [Nat.add_mul] at this; omega
    have htk : cur.toList.take (n * k) = xs := by
      have := congrArg (List.take (n * k)) ht
      rw [List.take_take, ← hx, List.take_left, Nat.min_eq_left (by rw [hx, Nat.add_mul]; omega), hx] at this
      exact this
    refine ⟨g, cur.toList, rfl, (by unfold OwnT; simpa using hb), by omega, fun H' hT => ?_⟩
    refine ⟨by rw [List.length_append, hx, hf, Nat.add_mul]; omega, .inr ⟨g, cap, (cur.toList.take (n * k) ++ fc ++ cur.toList.drop (n * k + k)).toArray, rfl, hB, hT, hn, hm, ?_, ?_⟩⟩
    · simp only [List.size_toArray, List.length_append, List.length_take, List.length_drop, hcl, hf]; omega
    · simp only
      rw [htk, show (n + 1) * k = (xs ++ fc).length by rw [List.length_append, hx, hf, Nat.add_mul]; omega, List.take_left]
theorem Qs.app {H H1 H2 H3 H4 : Heap} (h : Qs L N m B G s H fr A cap ev nd pe vc dn o1 o2) {xs fc : List Value} {f : Fr} {A' : Option Addr} {cap' ga : Nat} (hr : rqS G L fr xs) (hf : rqF G L f fc) (he : Ext H H1) (hbut : But (fun g => (g : Int) = ob A) H1 H2)
    (hga : A' = some ⟨ga, 0, none⟩) (hA : ob A' = ob A ∨ ob A' = H1.size) {ca : List Value} (ua : Upd H2 H3 ga ca) (g : Gs H3 B 76 10 A' cap' (fr.length + 1) (xs ++ fc)) (u : Upd H3 H4 m (mc N (fr.length + 1) A' cap' ev nd pe vc dn o1 o2)) :
    Qs L N m B G H4.size H4 (f :: fr) A' cap' ev nd pe vc dn o1 o2 ∧ But (fun g => g = m ∨ (g : Int) = ob A) H H4 ∧ (ob A' = ob A ∨ (H.size : Int) ≤ ob A') := by
  have z := h.lt
  have z1 := he.1
  have z2 := hbut.1
  have z3 := ua.1
  have z4 := u.1
  have zg := g.lt
  subst hga
  rw [ob_some] at hA zg
  obtain ⟨An, capn, rfl, hN, hl⟩ := h.ns
  have hb3 : But (fun g => (g : Int) = ob A) H H3 := ⟨by omega, fun b hb hs => (ua.2.2 b (by omega)).trans ((hbut.2 b (by omega) hs).trans (he.2 b hb))⟩
  have hb2 : But (fun g => g = m ∨ (g : Int) = ob A) H H4 := (hb3.mono fun b _ hb => Or.inr hb).trans (u.but.mono fun b _ hb => Or.inl hb)
  refine ⟨⟨u.own, h.v7, ⟨_, g.upw u (by rw [ob_some]; omega), xs, fc, rfl, hf, hr⟩, ?_, by omega, by rw [ob_some]; omega, by rw [ob_some]; omega, h.bm, h.len, An, capn, rfl, ?_, hl⟩, hb2, by rw [ob_some]; omega⟩
  · exact ((h.fz.via hb3 (fun g hg => .inr (.inl hg))).upw u (.inl rfl)).re (by omega) (Nat.le_refl _) (by rw [ob_some]; omega)
  · exact (hN.via hb2 (by intro h0 g hg hh; omega))
theorem Qs.app2 {H H1 H2 H3 H4 : Heap} (h : Qs L N m B G s H fr A cap ev nd pe vc dn o1 o2) {xs fc : List Value} {f : Fr} {A' : Option Addr} {cap' ga : Nat} (hr : rqS G L fr xs) (hf : rqF G L f fc) (he : Ext H H1) (hbut : But (fun g => (g : Int) = ob A) H1 H2)
    (hga : A' = some ⟨ga, 0, none⟩) (hA : ob A' = ob A ∨ ob A' = H1.size) {ca : List Value} (u : Upd H2 H3 m (mc N (fr.length + 1) A' cap' ev nd pe vc dn o1 o2)) (ua : Upd H3 H4 ga ca) (g : Gs H4 B 76 10 A' cap' (fr.length + 1) (xs ++ fc)) :
    Qs L N m B G H4.size H4 (f :: fr) A' cap' ev nd pe vc dn o1 o2 ∧ But (fun g => g = m ∨ (g : Int) = ob A) H H4 ∧ (ob A' = ob A ∨ (H.size : Int) ≤ ob A') := by
  have z := h.lt
  have z1 := he.1
  have z2 := hbut.1
  have z3 := ua.1
  have z4 := u.1
  have zg := g.lt
  subst hga
  rw [ob_some] at hA zg
  obtain ⟨An, capn, rfl, hN, hl⟩ := h.ns
  have hb2 : But (fun g => g = m ∨ (g : Int) = ob A) H H4 := ⟨by omega, fun b hb hs => (ua.2.2 b (by omega)).trans ((u.2.2 b (by omega)).trans ((hbut.2 b (by omega) (by omega)).trans (he.2 b hb)))⟩
  refine ⟨⟨u.own.upw ua (by omega), h.v7, ⟨_, g, xs, fc, rfl, hf, hr⟩, ?_, by omega, by rw [ob_some]; omega, by rw [ob_some]; omega, h.bm, h.len, An, capn, rfl, ?_, hl⟩, hb2, by rw [ob_some]; omega⟩
  · exact (h.fz.via hb2 (fun g hg => by omega)).re (by omega) (Nat.le_refl _) (by rw [ob_some]; omega)
  · exact (hN.via hb2 (by intro h0 g hg hh; omega))
theorem rqF_ones {f : Fr} {c : List Value} (h : rqF G L f c) : ones c = true := by
  obtain ⟨nd, p, hc, rfl, h2, h3, _, _, _, h4, _⟩ := h
  obtain ⟨Ap, rfl⟩ := rqE_one h4
  simp only [ones, List.all_cons] at h3 ⊢
  rw [h3]; rfl
theorem rqF_ptr {f : Fr} {k i p : Value} {hc : List Value} (h : rqF G L f (k :: i :: p :: hc)) : ∃ Ap, p = .pointer Ap := by
  obtain ⟨nd, p', hc', he, _, _, _, _, _, h4, _⟩ := h
  obtain ⟨Ap, rfl⟩ := rqE_one h4
  simp only [List.cons.injEq] at he
  exact ⟨Ap, he.2.2.1⟩
theorem pushR_ok {H : Heap} (hM : Qs L N m B G s H fr A cap ev nd pe vc dn o1 o2) {f : Fr} {k i : Int} {p : Value} {hc : List Value} (hf : rqF G L f (I k :: I i :: p :: hc)) (hl : fr.length ≤ 100000) :
    Ret Try.prog 54 [ptr m 0, I k, I i, p, .agg hc.toArray] H (fun _ H' => ∃ A' cap', Qs L N m B G H'.size H' (f :: fr) A' cap' ev nd pe vc dn o1 o2 ∧ But (fun g => g = m ∨ (g : Int) = ob A) H H' ∧ (ob A' = ob A ∨ (H.size : Int) ≤ ob A')) := by
  have h10 := rqF_ten hf
  have ho1 := rqF_ones hf
  obtain ⟨Ap, rfl⟩ := rqF_ptr hf
  obtain ⟨a0, a1, a2, a3, a4, a5, a6, rfl⟩ := sevn (c := hc) (by simpa using h10)
  have z := hM.lt
  obtain ⟨xs, hg, hr⟩ := hM.arr
  have hx := rqS_len hr
  have ho := hM.own
  refine Ret.of_at (N := 25) Try.call54 Try.func54 rfl rfl rfl ?_
  have hE := Ext.refl H
  have z_ho := ho.lt
  have z_hg := hg.lt
  refine At.region rfl rfl ?_
  refine Reg.op rfl rfl rfl rfl (Does.box rfl rfl) ?_
  rintro _ H0_0 ⟨rfl, hn0_0⟩
  have z0_0 := hn0_0.size
  replace ho := ho.ext hn0_0.ext
  replace hg := hg.ext hn0_0.ext
  have o0_0 := hn0_0.own
  refine Reg.nil ?_
  refine At.drawE ((Bks.cons ho.blk (Bks.cons o0_0.blk Bks.nil))) [11, 13, 16] mixed rfl rfl ?_
  refine RegD.tpur (i := 0) rfl rfl rfl rfl (by kernel_rfl) (Pur.mv rfl) ?_
  refine RegD.tpur (i := 1) rfl rfl rfl rfl (by kernel_rfl) (Pur.nilc rfl) ?_
  refine RegD.tpur (i := 2) rfl rfl rfl rfl (by kernel_rfl) (Pur.fld _ fo60_1 rfl) ?_
  refine RegD.take (i := 3) rfl rfl rfl rfl (by kernel_rfl) (Bks.cons ho.blk (Bks.cons o0_0.blk Bks.nil)) (fun H hS => Lod.ld sc54 rfl hS.hd rfl) ?_
  refine RegD.tpur (i := 4) rfl rfl rfl rfl (by kernel_rfl) (Pur.mv rfl) ?_
  refine RegD.tpur (i := 5) rfl rfl rfl rfl (by kernel_rfl) (Pur.mv rfl) ?_
  refine RegD.tpur (i := 6) rfl rfl rfl rfl (by kernel_rfl) (Pur.mv rfl) ?_
  refine RegD.take (i := 7) rfl rfl rfl rfl (by kernel_rfl) (Bks.cons ho.blk (Bks.cons o0_0.blk Bks.nil)) (fun H hS => Lod.ldn ag58 rfl hS.tl.hd (whole rfl) rfl) ?_
  refine RegD.tpur (i := 8) rfl rfl rfl rfl (by kernel_rfl) (Pur.bld (cs := [_, _, _, _, _, _, _, _, _, _]) pl76 zc76 rfl rfl ⟨rfl, rfl, rfl, rfl, rfl, rfl, rfl, rfl, rfl, rfl, rfl⟩) ?_
  refine RegD.tpur (i := 9) rfl rfl rfl rfl (by kernel_rfl) (Pur.lenS isl54 rfl) ?_
  refine RegD.one (i := 10) (by kernel_rfl) rfl rfl rfl rfl (Does.bslA ([[_, _, _, _, _, _, _, _, _, _]]) slA54 rfl rfl rfl rfl rfl rfl) ?_
  rintro _ H1_10 ⟨rfl, hp1_10⟩
  have hn1_10 := New.of_eq hp1_10
  have z1_10 := hn1_10.size
  replace ho := ho.ext hn1_10.ext
  replace hg := hg.ext hn1_10.ext
  replace o0_0 := o0_0.ext hn1_10.ext
  have o1_10 := hn1_10.own
  refine ⟨fun _ _ => (Bks.cons ho.blk (Bks.cons o0_0.blk Bks.nil)), ?_⟩

  refine RegD.one (i := 11) (by kernel_rfl) rfl rfl rfl rfl (Does.appS apt54 rfl rfl (by decide) hg (src_new (s := 10) o1_10.blk rfl) rfl (by omega) (by omega)) ?_
  rintro _ H1_11 ⟨A1_11, cap1_11, rfl, g1_11, hbut1_11, ha1_11⟩
  have z1_11 := hbut1_11.lt
  replace ho := ho.via hbut1_11 (by first | omega | (intro g; omega) | (intro g hg; omega) | (intro g hg h; omega))
  replace o0_0 := o0_0.via hbut1_11 (by first | omega | (intro g; omega) | (intro g hg; omega) | (intro g hg h; omega))
  replace o1_10 := o1_10.via hbut1_11 (by first | omega | (intro g; omega) | (intro g hg; omega) | (intro g hg h; omega))
  obtain ⟨ga, cs, rfl, hOT, hcl, hput⟩ := gs_put (fc := [I k, I i, .pointer Ap, a0, a1, a2, a3, a4, a5, a6]) g1_11 hx rfl rfl
  have ha2 := ha1_11
  rw [ob_some] at ha2
  have z_hOT := hOT.lt
  refine ⟨fun h => (by cases h), ?_⟩
  refine RegD.tpur (i := 12) rfl rfl rfl rfl (by kernel_rfl) (Pur.idx _ es54 rfl rfl (by omega) (by omega)) ?_
  refine RegD.tpur (i := 14) rfl rfl rfl rfl (by kernel_rfl) (Pur.nilc rfl) ?_
  refine RegD.tpur (i := 15) rfl rfl rfl rfl (by kernel_rfl) (Pur.fld _ fo60_1 rfl) ?_
  refine RegD.fork2 (i := 13) (j := 16) (by kernel_rfl) ?_ ?_
  · refine RegOp.one0 (i := 13) rfl rfl rfl (Does.stnT ag76 rfl rfl ho1 rfl hOT (by omega)) ?_
    rintro _ H1_13 ⟨hu1_13, ht1_13⟩
    have z1_13 := hu1_13.size
    replace ho := ho.upw hu1_13 (by omega)
    replace o0_0 := o0_0.upw hu1_13 (by omega)
    replace o1_10 := o1_10.upw hu1_13 (by omega)
    replace hOT := ht1_13
    refine ⟨fun h => (by cases h), ?_⟩
    refine RegD.one0 (i := 16) (by kernel_rfl) rfl rfl rfl (Does.st sc54 rfl rfl rfl ho (by first | decide | (simp; done) | (simp; omega) | omega)) ?_
    rintro _ H1_16 hu1_16
    have z1_16 := hu1_16.size
    replace o0_0 := o0_0.upw hu1_16 (by omega)
    replace o1_10 := o1_10.upw hu1_16 (by omega)
    replace hOT := hOT.upw hu1_16 (by omega)
    replace ho := hu1_16.own
    refine ⟨fun h => (by cases h), ?_⟩
    refine RegD.done (by kernel_rfl) ?_
    refine At.fall rfl Try.func54 rfl ?_
    obtain ⟨r1, r2, r3⟩ := by first | exact hM.app hr hf (hn0_0.ext.trans hn1_10.ext) hbut1_11 rfl (by rw [ob_some]; omega) hu1_13 (hput _ (by simpa using ht1_13)) hu1_16 | exact hM.app2 hr hf (hn0_0.ext.trans hn1_10.ext) hbut1_11 rfl (by rw [ob_some]; omega) hu1_16 hu1_13 (hput _ (by simpa using ht1_13))
    exact ⟨_, cap1_11, r1, r2, r3⟩
  refine RegOp.one0 (i := 16) rfl rfl rfl (Does.st sc54 rfl rfl rfl ho (by first | decide | (simp; done) | (simp; omega) | omega)) ?_
  rintro _ H1_16 hu1_16
  have z1_16 := hu1_16.size
  replace o0_0 := o0_0.upw hu1_16 (by omega)
  replace o1_10 := o1_10.upw hu1_16 (by omega)
  replace hOT := hOT.upw hu1_16 (by omega)
  replace ho := hu1_16.own
  refine ⟨fun h => (by cases h), ?_⟩
  refine RegD.one0 (i := 13) (by kernel_rfl) rfl rfl rfl (Does.stnT ag76 rfl rfl ho1 rfl hOT (by omega)) ?_
  rintro _ H1_13 ⟨hu1_13, ht1_13⟩
  have z1_13 := hu1_13.size
  replace ho := ho.upw hu1_13 (by omega)
  replace o0_0 := o0_0.upw hu1_13 (by omega)
  replace o1_10 := o1_10.upw hu1_13 (by omega)
  replace hOT := ht1_13
  refine ⟨fun h => (by cases h), ?_⟩
  refine RegD.done (by kernel_rfl) ?_
  refine At.fall rfl Try.func54 rfl ?_
  obtain ⟨r1, r2, r3⟩ := by first | exact hM.app hr hf (hn0_0.ext.trans hn1_10.ext) hbut1_11 rfl (by rw [ob_some]; omega) hu1_13 (hput _ (by simpa using ht1_13)) hu1_16 | exact hM.app2 hr hf (hn0_0.ext.trans hn1_10.ext) hbut1_11 rfl (by rw [ob_some]; omega) hu1_16 hu1_13 (hput _ (by simpa using ht1_13))
  exact ⟨_, cap1_11, r1, r2, r3⟩
end Go.Proofs.Ytjhkmebmbopfoaa
