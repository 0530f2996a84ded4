/-
  Chapter 21: the machine's small functions.
-/
import Derived.Test.YtjhkmebmbopfoaaMacC
import Derived.Test.YtjhkmebmbopfoaaMacD
import Derived.Test.YtjhkmebmbopfoaaFxT
import Derived.Test.YtjhkmebmbopfoaaFxU
namespace Go.Proofs.Ytjhkmebmbopfoaa
set_option linter.unusedSimpArgs false
set_option linter.unusedVariables false
set_option maxRecDepth 8000
set_option maxHeartbeats 1000000
open Go Go.Fx Go.Proofs
namespace FactsMacG
theorem ag68 : ag Try.prog 68 = some 6 := by kernel_rfl
theorem ag71 : ag Try.prog 71 = some 9 := by kernel_rfl
theorem apt46 : appT Try.prog 46 = some (71, 9, 72) := by kernel_rfl
theorem fo103_0 : foff Try.prog 103 0 = some 0 := by kernel_rfl
theorem fo103_1 : foff Try.prog 103 1 = some 6 := by kernel_rfl
theorem fo103_2 : foff Try.prog 103 2 = some 7 := by kernel_rfl
theorem fo51_1 : foff Try.prog 51 1 = some 1 := by kernel_rfl
theorem fo51_2 : foff Try.prog 51 2 = some 2 := by kernel_rfl
theorem fo51_3 : foff Try.prog 51 3 = some 3 := by kernel_rfl
theorem fo51_4 : foff Try.prog 51 4 = some 4 := by kernel_rfl
theorem fo51_5 : foff Try.prog 51 5 = some 5 := by kernel_rfl
theorem isPt47 : isPt Try.prog 47 = true := by kernel_rfl
theorem mixed : Try.prog.follows .mixedOrders = true := by kernel_rfl
theorem pl103 : places Try.prog 103 = some [(0, 6), (6, 1), (7, 1)] := by kernel_rfl
theorem pl25 : places Try.prog 25 = some [(0, 1), (1, 1)] := by kernel_rfl
theorem sc3 : sc Try.prog 3 = true := by kernel_rfl
theorem sc46 : sc Try.prog 46 = true := by kernel_rfl
theorem sc47 : sc Try.prog 47 = true := by kernel_rfl
theorem sc48 : sc Try.prog 48 = true := by kernel_rfl
theorem sc49 : sc Try.prog 49 = true := by kernel_rfl
theorem slA46 : slA Try.prog 46 = some (71, 9) := by kernel_rfl
theorem zc103 : zc Try.prog 103 = some [.int .i64 0, .int .i64 0, .int .i64 0, .pointer none, .pointer none, .pointer none, .int .i64 0, .pointer none] := by kernel_rfl
theorem zc25 : zc Try.prog 25 = some [.int .i64 0, .int .i64 0] := by kernel_rfl
end FactsMacG
open FactsMacG

theorem Upd_trans {H1 H2 H3 : Heap} {b : Nat} {c1 c2 : List Value} (h : Upd H1 H2 b c1) (k : Upd H2 H3 b c2) : Upd H1 H3 b c2 :=
  ⟨k.1.trans h.1, k.2.1, fun b' hb => (k.2.2 b' hb).trans (h.2.2 b' hb)⟩
/-- blocks ahead of B are as they were -/
structure Lo (B : Nat) (H H' : Heap) : Prop where
  but : But (fun g => B ≤ g) H H'
theorem Lo.refl (B : Nat) (H : Heap) : Lo B H H := ⟨But.refl _ _⟩
theorem Lo.trans {B : Nat} {X Y Z : Heap} (h : Lo B X Y) (k : Lo B Y Z) : Lo B X Z := ⟨h.but.trans k.but⟩
theorem Lo.via {B : Nat} {S : Nat → Prop} {X Y Z : Heap} (h : Lo B X Y) (k : But S Y Z) (hS : ∀ g, S g → B ≤ g) : Lo B X Z := ⟨h.but.trans (k.mono fun b _ hb => hS b hb)⟩
theorem Lo.ext {B : Nat} {X Y Z : Heap} (h : Lo B X Y) (k : Ext Y Z) : Lo B X Z := ⟨h.but.trans k.but⟩
theorem Lo.upw {B b : Nat} {c : List Value} {X Y Z : Heap} (h : Lo B X Y) (u : Upd Y Z b c) (hb : B ≤ b) : Lo B X Z := h.via u.but fun g hg => by subst hg; exact hb
theorem Lo.lt {B : Nat} {X Y : Heap} (h : Lo B X Y) : X.size ≤ Y.size := h.but.1
/-- all but two blocks are as they were -/
structure Chm (m : Nat) (a : Int) (H H' : Heap) : Prop where
  but : But (fun g => g = m ∨ (g : Int) = a) H H'
theorem Chm.refl (m : Nat) (a : Int) (H : Heap) : Chm m a H H := ⟨But.refl _ _⟩
theorem Chm.trans {m : Nat} {a : Int} {X Y Z : Heap} (h : Chm m a X Y) (k : Chm m a Y Z) : Chm m a X Z := ⟨h.but.trans k.but⟩
theorem Chm.via {m : Nat} {a : Int} {S : Nat → Prop} {X Y Z : Heap} (h : Chm m a X Y) (k : But S Y Z) (hS : ∀ g, g < X.size → S g → g = m ∨ (g : Int) = a) : Chm m a X Z :=
  ⟨⟨Nat.le_trans h.but.1 k.1, fun b hb hs => (k.2 b (Nat.lt_of_lt_of_le hb h.but.1) fun hh => hs (hS b hb hh)).trans (h.but.2 b hb hs)⟩⟩
theorem Chm.ext {m : Nat} {a : Int} {X Y Z : Heap} (h : Chm m a X Y) (k : Ext Y Z) : Chm m a X Z := ⟨h.but.trans k.but⟩
theorem Chm.upw {m b : Nat} {a : Int} {c : List Value} {X Y Z : Heap} (h : Chm m a X Y) (u : Upd Y Z b c) (hb : b = m ∨ (b : Int) = a ∨ X.size ≤ b) : Chm m a X Z := h.via u.but fun g hg he => by subst he; omega
theorem Chm.lt {m : Nat} {a : Int} {X Y : Heap} (h : Chm m a X Y) : X.size ≤ Y.size := h.but.1
/-- the machine's state in the heap -/
structure Ms (L : List (List Int)) (N : Value) (m B : Nat) (G : Gh) (s : Nat) (H : Heap) (fr : List Fr) (A : Option Addr) (cap : Nat) (nd : Int) (pe pv pd : Value) : Prop where
  own : Own H m [N, .slice A fr.length cap, I nd, pe, pv, pd]
  arr : ∃ xs, Gs H B 71 9 A cap fr.length xs ∧ repS G fr xs
  fz : Fz G m (ob A) s H
  lm : m < s
  la : ob A < s
  ne : ob A ≠ m
  bm : B ≤ m
  len : ∀ x ∈ L, x.length = 9
  ns : ∃ An capn, N = .slice An L.length capn ∧ SlT H Is 9 N L ∧ (L.length = 0 ∨ ob An < B)
section ms
variable {L : List (List Int)} {N : Value} {m B : Nat} {G : Gh} {s : Nat} {H H' : Heap} {fr : List Fr} {A : Option Addr} {cap : Nat} {nd : Int} {pe pv pd : Value}
theorem Ms.alo (h : Ms L N m B G s H fr A cap nd pe pv pd) : ob A = -1 ∨ (B : Int) ≤ ob A := by
  obtain ⟨xs, hg, _⟩ := h.arr
  exact hg.lt.2
theorem Ms.lt (h : Ms L N m B G s H fr A cap nd pe pv pd) : s ≤ H.size ∧ m < s ∧ B ≤ m ∧ ob A < s ∧ ob A ≠ m ∧ (ob A = -1 ∨ (B : Int) ≤ ob A) := ⟨h.fz.hs, h.lm, h.bm, h.la, h.ne, h.alo⟩
theorem Ms.via {S : Nat → Prop} (h : Ms L N m B G s H fr A cap nd pe pv pd) (k : But S H H') (hS : ∀ g : Nat, S g → s ≤ g) : Ms L N m B G s H' fr A cap nd pe pv pd := by
  have hm := h.lm
  have ha := h.la
  have hb := h.bm
  obtain ⟨xs, hg, hr⟩ := h.arr
  obtain ⟨An, capn, rfl, hN, hl⟩ := h.ns
  refine ⟨h.own.but k (fun hs => ?_), ⟨xs, hg.via k (fun g hga hs => ?_), hr⟩, h.fz.via k (fun g hs => .inr (.inr (hS g hs))), h.lm, h.la, h.ne, h.bm, h.len, An, capn, rfl, hN.via k (fun h0 g hga hs => ?_), hl⟩
  · have := hS m hs; omega
  · have := hS g hs; omega
  · have := hS g hs; omega
theorem Ms.ext (h : Ms L N m B G s H fr A cap nd pe pv pd) (k : Ext H H') : Ms L N m B G s H' fr A cap nd pe pv pd := h.via (S := fun _ => False) k.but fun _ hf => hf.elim
theorem Ms.upw {b : Nat} {c : List Value} (h : Ms L N m B G s H fr A cap nd pe pv pd) (u : Upd H H' b c) (hb : s ≤ b) : Ms L N m B G s H' fr A cap nd pe pv pd := h.via u.but fun g hg => by subst hg; exact hb
/-- the same, G's bound is the heap's end -/
theorem Ms.re (h : Ms L N m B G s H fr A cap nd pe pv pd) {s' : Nat} (h1 : s ≤ s') (h2 : s' ≤ H.size) : Ms L N m B G s' H fr A cap nd pe pv pd :=
  ⟨h.own, h.arr, h.fz.re h1 h2 (.inl rfl), Nat.lt_of_lt_of_le h.lm h1, by have := h.la; omega, h.ne, h.bm, h.len, h.ns⟩
/-- m is written -/
theorem Ms.set (h : Ms L N m B G s H fr A cap nd pe pv pd) {nd' : Int} {pe' pv' pd' : Value} (u : Upd H H' m [N, .slice A fr.length cap, I nd', pe', pv', pd']) : Ms L N m B G s H' fr A cap nd' pe' pv' pd' := by
  have hm := h.lm
  have ha := h.la
  have hne := h.ne
  have hb := h.bm
  obtain ⟨xs, hg, hr⟩ := h.arr
  obtain ⟨An, capn, rfl, hN, hl⟩ := h.ns
  exact ⟨u.own, ⟨xs, hg.upw u (by omega), hr⟩, h.fz.upw u (.inl rfl), h.lm, h.la, h.ne, h.bm, h.len, An, capn, rfl, hN.upw u (by omega), hl⟩
theorem Ms.set' (h : Ms L N m B G s H fr A cap nd pe pv pd) {nd' : Int} {pe' pv' pd' : Value} (o : Own H' m [N, .slice A fr.length cap, I nd', pe', pv', pd']) (k : But (fun g => g = m) H H') : Ms L N m B G s H' fr A cap nd' pe' pv' pd' := by
  have hm := h.lm
  have ha := h.la
  have hne := h.ne
  have hb := h.bm
  obtain ⟨xs, hg, hr⟩ := h.arr
  obtain ⟨An, capn, rfl, hN, hl⟩ := h.ns
  exact ⟨o, ⟨xs, hg.via k (by intro g hg h; omega), hr⟩, h.fz.via k (fun g hg => .inl (by omega)), h.lm, h.la, h.ne, h.bm, h.len, An, capn, rfl, hN.via k (by intro h0 g hg h; omega), hl⟩
/-- a frozen block more -/
theorem Ms.add (h : Ms L N m B G s H fr A cap nd pe pv pd) {b : Nat} {c : List Value} (hb : Blk H b c) (hs : s ≤ b) : Ms L N m B (Gset G b c) (b + 1) H fr A cap nd pe pv pd := by
  have hm := h.lm
  have ha := h.la
  obtain ⟨xs, hg, hr⟩ := h.arr
  exact ⟨h.own, ⟨xs, hg, repS_mono (gset_le h.fz hs) hr⟩, h.fz.add hb hs (by omega) (by omega), by omega, by omega, h.ne, h.bm, h.len, h.ns⟩
/-- a frozen block is none that is written -/
theorem Ms.gne (h : Ms L N m B G s H fr A cap nd pe pv pd) {b : Nat} {d : List Value} (hb : G b = some d) : b ≠ m ∧ (b : Int) ≠ ob A ∧ b < s := by
  have h1 := h.fz.nx b d hb
  exact ⟨by omega, h.fz.ny b d hb, h.fz.lo b d hb⟩
/-- a node's cells -/
theorem Ms.node (h : Ms L N m B G s H fr A cap nd pe pv pd) {i : Int} (h0 : 0 ≤ i) (h1 : i < L.length) :
    ∃ bn on capn c, N = .slice (some ⟨bn, on, none⟩) L.length capn ∧ Blk H bn c ∧ bn < B ∧ ∀ j, j < 9 → c[on + i.toNat * 9 + j]? = some (I ((el L i).getD j 0)) := by
  obtain ⟨An, capn, rfl, hN, hl⟩ := h.ns
  have hi : i.toNat < L.length := by omega
  obtain ⟨b, o, c, rfl, hB, _, hc⟩ := hN.at hi
  refine ⟨b, o, capn, c, rfl, hB, ?_, fun j hj => ?_⟩
  · rw [ob_some] at hl; omega
  · have e : el L i = L[i.toNat] := by simp [el, List.getD_eq_getElem?_getD, hi]
    rw [e]
    have h9 := h.len _ (List.getElem_mem hi)
    have := at_tk (j := j) (v := I (L[i.toNat].getD j 0)) hc (by simpa using hj) (at_Is (by omega))
    exact this
end ms
variable {L : List (List Int)} {N : Value} {m B : Nat} {G : Gh} {s : Nat} {fr : List Fr} {A : Option Addr} {cap : Nat} {nd : Int} {pe pv pd : Value}
theorem goes_ok {H : Heap} (hM : Ms L N m B G s H fr A cap nd pe pv pd) (node : Int) (p : Value) (hp : p.oneCell' = true) :
    Ret Try.prog 45 [ptr m 0, I node, p] H (fun _ H' => Ms L N m B G s H' fr A cap node p nilp pd ∧ But (fun g => g = m) H H') := by
  have ho := hM.own
  refine Ret.of_at (N := 17) Try.call45 Try.func45 rfl rfl rfl ?_
  have hE := Ext.refl H
  have z_ho := ho.lt
  refine At.region rfl rfl ?_
  refine Reg.pur rfl rfl rfl rfl (Pur.mv rfl) ?_
  refine Reg.pur rfl rfl rfl rfl (Pur.mv rfl) ?_
  refine Reg.pur rfl rfl rfl rfl (Pur.mv rfl) ?_
  refine Reg.pur rfl rfl rfl rfl (Pur.mv rfl) ?_
  refine Reg.pur rfl rfl rfl rfl (Pur.mv rfl) ?_
  refine Reg.pur rfl rfl rfl rfl (Pur.nilc rfl) ?_
  refine Reg.pur rfl rfl rfl rfl (Pur.fld _ fo51_2 rfl) ?_
  refine Reg.op0 rfl rfl rfl (Does.st sc3 rfl rfl rfl ho (by first | decide | (simp; done) | (simp; omega) | omega)) ?_
  rintro _ H0_7 hu0_7
  have z0_7 := hu0_7.size
  replace ho := hu0_7.own
  refine Reg.pur rfl rfl rfl rfl (Pur.nilc rfl) ?_
  refine Reg.pur rfl rfl rfl rfl (Pur.fld _ fo51_3 rfl) ?_
  refine Reg.op0 rfl rfl rfl (Does.st sc47 rfl rfl hp ho (by simp)) ?_
  rintro _ H0_10 hu0_10
  have z0_10 := hu0_10.size
  replace ho := hu0_10.own
  refine Reg.pur rfl rfl rfl rfl (Pur.nilc rfl) ?_
  refine Reg.pur rfl rfl rfl rfl (Pur.fld _ fo51_4 rfl) ?_
  refine Reg.op0 rfl rfl rfl (Does.st sc48 rfl rfl rfl ho (by simp)) ?_
  rintro _ H0_13 hu0_13
  have z0_13 := hu0_13.size
  replace ho := hu0_13.own
  refine Reg.nil ?_
  refine At.fall rfl Try.func45 rfl ?_
  have u := Upd_trans (Upd_trans hu0_7 hu0_10) hu0_13
  exact ⟨hM.set u, u.but⟩
theorem gives_ok {H : Heap} (hM : Ms L N m B G s H fr A cap nd pe pv pd) {v : T} {vc : List Value} (hv : repV G v vc) :
    Ret Try.prog 42 [ptr m 0, .agg vc.toArray] H (fun _ H' => ∃ G' pv', Gle G G' ∧ repP G' v pv' ∧ Ms L N m B G' H'.size H' fr A cap nd pe pv' pd ∧ But (fun g => g = m) H H') := by
  have ho := hM.own
  have z := hM.lt
  refine Ret.of_at (N := 7) Try.call42 Try.func42 rfl rfl rfl ?_
  have hE := Ext.refl H
  have z_ho := ho.lt
  refine At.region rfl rfl ?_
  refine Reg.op rfl rfl rfl rfl (Does.box rfl rfl) ?_
  rintro _ H0_0 ⟨rfl, hn0_0⟩
  have z0_0 := hn0_0.size
  replace ho := ho.ext hn0_0.ext
  have o0_0 := hn0_0.own
  refine Reg.nil ?_
  refine At.region rfl rfl ?_
  refine Reg.pur rfl rfl rfl rfl (Pur.mv rfl) ?_
  refine Reg.pur rfl rfl rfl rfl (Pur.nilc rfl) ?_
  refine Reg.pur rfl rfl rfl rfl (Pur.fld _ fo51_4 rfl) ?_
  refine Reg.op0 rfl rfl rfl (Does.st sc48 rfl rfl rfl ho (by first | decide | (simp; done) | (simp; omega) | omega)) ?_
  rintro _ H1_3 hu1_3
  have z1_3 := hu1_3.size
  replace o0_0 := o0_0.upw hu1_3 (by omega)
  replace ho := hu1_3.own
  refine Reg.nil ?_
  refine At.fall rfl Try.func42 rfl ?_
  have hM2 := (hM.ext hn0_0.ext).set hu1_3
  have hM3 := hM2.add o0_0.blk (by omega)
  have hle := gset_le (b := H.size) (c := vc) hM2.fz (by omega)
  refine ⟨_, _, hle, ⟨H.size, vc, rfl, gset_at _ _ _, ?_⟩, hM3.re (by omega) (Nat.le_refl _), hn0_0.ext.but.trans hu1_3.but⟩
  rw [List.take_of_length_le (Nat.le_of_eq (repV_six hv))]
  exact repV_mono hle _ _ hv
theorem stuck_ok {H : Heap} (hM : Ms L N m B G s H fr A cap nd pe pv pd) :
    Ret Try.prog 43 [ptr m 0] H (fun _ H' => ∃ b, Ms L N m B G s H' fr A cap nd pe pv (ptr b 0) ∧ Blk H' b [I 5, I 0] ∧ But (fun g => g = m) H H') := by
  have ho := hM.own
  have z := hM.lt
  refine Ret.of_at (N := 7) Try.call43 Try.func43 rfl rfl rfl ?_
  have hE := Ext.refl H
  have z_ho := ho.lt
  refine At.region rfl rfl ?_
  refine Reg.pur rfl rfl rfl rfl (Pur.mv rfl) ?_
  refine Reg.pur rfl rfl rfl rfl (Pur.bld (cs := [_, _]) pl25 zc25 rfl rfl ⟨rfl, rfl, rfl⟩) ?_
  refine Reg.op rfl rfl rfl rfl (Does.box rfl rfl) ?_
  rintro _ H0_2 ⟨rfl, hn0_2⟩
  have z0_2 := hn0_2.size
  replace ho := ho.ext hn0_2.ext
  have o0_2 := hn0_2.own
  refine Reg.pur rfl rfl rfl rfl (Pur.nilc rfl) ?_
  refine Reg.pur rfl rfl rfl rfl (Pur.fld _ fo51_5 rfl) ?_
  refine Reg.op0 rfl rfl rfl (Does.st sc49 rfl rfl rfl ho (by first | decide | (simp; done) | (simp; omega) | omega)) ?_
  rintro _ H0_5 hu0_5
  have z0_5 := hu0_5.size
  replace o0_2 := o0_2.upw hu0_5 (by omega)
  replace ho := hu0_5.own
  refine Reg.nil ?_
  refine At.fall rfl Try.func43 rfl ?_
  exact ⟨_, (hM.ext hn0_2.ext).set hu0_5, o0_2.blk, hn0_2.ext.but.trans hu0_5.but⟩
theorem six {c : List Value} (h : c.length = 6) : ∃ a0 a1 a2 a3 a4 a5, c = [a0, a1, a2, a3, a4, a5] := by
  match c, h with
  | [a0, a1, a2, a3, a4, a5], _ => exact ⟨_, _, _, _, _, _, rfl⟩
theorem with_ok {H : Heap} (hM : Ms L N m B G s H fr A cap nd pe pv pd) {v env : T} {vc : List Value} (hv : repV G v vc) {p : Value} (hp : repE G env p) (n : Int) :
    Ret Try.prog 46 [p, I n, .agg vc.toArray] H (fun r H' => ∃ G', Gle G G' ∧ repE G' (.env v n env) r ∧ Ms L N m B G' H'.size H' fr A cap nd pe pv pd ∧ Ext H H') := by
  obtain ⟨a0, a1, a2, a3, a4, a5, rfl⟩ := six (repV_six hv)
  have z := hM.lt
  obtain ⟨Ap, rfl⟩ := repE_one hp
  refine Ret.of_at (N := 12) Try.call46 Try.func46 rfl rfl rfl ?_
  have hE := Ext.refl H
  have z_hE := hE.lt
  refine At.region rfl rfl ?_
  refine Reg.op rfl rfl rfl rfl (Does.box rfl rfl) ?_
  rintro _ H0_0 ⟨rfl, hn0_0⟩
  have z0_0 := hn0_0.size
  replace hE := hE.ext hn0_0.ext
  have o0_0 := hn0_0.own
  refine Reg.pur rfl rfl rfl rfl (Pur.asg rfl) ?_
  refine Reg.nil ?_
  refine At.region rfl rfl ?_
  refine Reg.lod rfl rfl rfl rfl (Lod.ldn ag68 rfl o0_0.blk (whole rfl) rfl) ?_
  refine Reg.pur rfl rfl rfl rfl (Pur.mv rfl) ?_
  refine Reg.pur rfl rfl rfl rfl (Pur.mv rfl) ?_
  refine Reg.pur rfl rfl rfl rfl (Pur.bld (cs := [_, _, _, _, _, _, _, _]) pl103 zc103 rfl rfl ⟨rfl, rfl, rfl, rfl, rfl, rfl, rfl, rfl, rfl⟩) ?_
  refine Reg.op rfl rfl rfl rfl (Does.box rfl rfl) ?_
  rintro _ H1_4 ⟨rfl, hn1_4⟩
  have z1_4 := hn1_4.size
  replace hE := hE.ext hn1_4.ext
  replace o0_0 := o0_0.ext hn1_4.ext
  have o1_4 := hn1_4.own
  refine Reg.pur rfl rfl rfl rfl (Pur.asg rfl) ?_
  refine Reg.nil ?_
  refine At.ret rfl Try.func46 rfl ?_
  have hM2 := hM.ext hE
  have hM3 := hM2.add o1_4.blk (by omega)
  have hle := gset_le (b := H0_0.size) (c := [a0, a1, a2, a3, a4, a5, Value.int IntKind.i64 n, Value.pointer Ap]) hM2.fz (by omega)
  refine ⟨_, hle, ?_, hM3.re (by omega) (Nat.le_refl _), hE⟩
  simp only [repE]
  exact ⟨H0_0.size, [a0, a1, a2, a3, a4, a5], .pointer Ap, rfl, gset_at _ _ _, repV_mono hle _ _ hv, repE_mono hle _ _ hp⟩
/-- what find finds -/
def Fnd (G : Gh) (env : T) (k : Int) (r : Value) : Prop := (findN env k = .nil ∧ r = nilp) ∨ (findN env k ≠ .nil ∧ repP G (findN env k) r)
theorem repV_nil {G : Gh} {v : T} {c : List Value} (h : repV G v c) : v ≠ .nil := by
  intro e; subst e; simp only [repV] at h
theorem repE_some {G : Gh} {en : T} {Aq : Option Addr} (h : repE G en (.pointer Aq)) (hn : Aq.isNone = false) : ∃ v n o b c q, en = .env v n o ∧ Aq = some ⟨b, 0, none⟩ ∧ G b = some (c ++ [I n, q]) ∧ repV G v c ∧ repE G o q ∧ c.length = 6 := by
  cases en <;> simp only [repE] at h
  · cases h; cases hn
  · obtain ⟨b, c, q, h1, h2, h3, h4⟩ := h
    cases h1
    exact ⟨_, _, _, b, c, q, rfl, rfl, h2, h3, h4, repV_six h3⟩
theorem repE_none {G : Gh} {en : T} {Aq : Option Addr} (h : repE G en (.pointer Aq)) (hn : Aq.isNone = true) : en = .nil ∧ Aq = none := by
  cases en <;> simp only [repE] at h
  · cases h; exact ⟨rfl, rfl⟩
  · obtain ⟨b, c, q, h1, h2, h3, h4⟩ := h
    cases h1; cases hn
theorem find_ok {H : Heap} (hst : ∀ b c, G b = some c → Blk H b c) (k : Int) : ∀ (env : T) (p : Value), repE G env p →
    Ret Try.prog 41 [p, I k] H (fun r H' => Fnd G env k r ∧ H' = H) := by
  intro env p hp
  obtain ⟨Ap, rfl⟩ := repE_one hp
  refine Ret.of_at (N := 20) Try.call41 Try.func41 rfl rfl rfl ?_
  have hE := Ext.refl H

  refine At.region rfl rfl ?_
  refine Reg.pur rfl rfl rfl rfl (Pur.asg rfl) ?_
  refine Reg.nil ?_
  refine At.loop (σ := T × Option Addr) (fun x => [(0, .pointer x.2), (1, I k)]) (fun x H' => repE G x.1 (.pointer x.2) ∧ findN env k = findN x.1 k ∧ H' = H) (fun x => SizeOf.sizeOf x.1) (env, Ap) rfl ⟨rfl, rfl, trivial⟩ ⟨hp, rfl, rfl⟩ ?_
  rintro ⟨en, Aq⟩ H2 ⟨hq, hf, rfl⟩ ih
  dsimp only at hq hf ih ⊢
  refine At.region rfl rfl ?_
  refine Reg.pur rfl rfl rfl rfl (Pur.mv rfl) ?_
  refine Reg.pur rfl rfl rfl rfl (Pur.nePN isPt47 rfl rfl) ?_
  refine Reg.nil ?_
  refine At.cond rfl rfl (fun q6 => ?_) (fun q6 => ?_)
  · first | (simp only [decide_eq_true_eq, decide_eq_false_iff_not, Bool.not_eq_true', Bool.not_eq_false', ne_eq, Decidable.not_not, Bool.not_eq_true, Bool.not_eq_false] at q6) | (dsimp only at q6) | skip
    obtain ⟨v, n, o, b, c, q, rfl, rfl, hG, hv, ho, h6⟩ := repE_some hq (by simpa using q6)
    have hB := hst _ _ hG
    obtain ⟨Ao, rfl⟩ := repE_one ho
    refine At.region rfl rfl ?_
    refine Reg.pur rfl rfl rfl rfl (Pur.mv rfl) ?_
    refine Reg.pur rfl rfl rfl rfl (Pur.nilc rfl) ?_
    refine Reg.pur rfl rfl rfl rfl (Pur.fld _ fo103_1 rfl) ?_
    refine Reg.lod rfl rfl rfl rfl (Lod.ld sc3 rfl hB (show _ = some (I n) by rw [show 0 + 6 = c.length by omega]; simp)) ?_
    refine Reg.pur rfl rfl rfl rfl (Pur.mv rfl) ?_
    refine Reg.pur rfl rfl rfl rfl (Pur.eql rfl rfl) ?_
    refine Reg.nil ?_
    refine At.cond rfl rfl (fun q16 => ?_) (fun q16 => ?_)
    · first | (simp only [decide_eq_true_eq, decide_eq_false_iff_not, Bool.not_eq_true', Bool.not_eq_false', ne_eq, Decidable.not_not, Bool.not_eq_true, Bool.not_eq_false] at q16) | (dsimp only at q16) | skip
      refine At.region rfl rfl ?_
      refine Reg.pur rfl rfl rfl rfl (Pur.mv rfl) ?_
      refine Reg.pur rfl rfl rfl rfl (Pur.nilc rfl) ?_
      refine Reg.pur rfl rfl rfl rfl (Pur.fld _ fo103_0 rfl) ?_
      refine Reg.pur rfl rfl rfl rfl (Pur.asg rfl) ?_
      refine Reg.nil ?_
      refine At.ret rfl Try.func41 rfl ?_
      refine ⟨.inr ?_, rfl⟩
      have hfv : findN (.env v n o) k = v := if_pos q16
      rw [hf, hfv]
      exact ⟨repV_nil hv, b, _, rfl, hG, by rw [← h6, List.take_left]; exact hv⟩
    first | (simp only [decide_eq_true_eq, decide_eq_false_iff_not, Bool.not_eq_true', Bool.not_eq_false', ne_eq, Decidable.not_not, Bool.not_eq_true, Bool.not_eq_false] at q16) | (dsimp only at q16) | skip
    refine At.region rfl rfl ?_
    refine Reg.pur rfl rfl rfl rfl (Pur.mv rfl) ?_
    refine Reg.pur rfl rfl rfl rfl (Pur.nilc rfl) ?_
    refine Reg.pur rfl rfl rfl rfl (Pur.fld _ fo103_2 rfl) ?_
    refine Reg.lod rfl rfl rfl rfl (Lod.ld sc47 rfl hB (show _ = some (Value.pointer Ao) by rw [show 0 + 7 = c.length + 1 by omega]; simp)) ?_
    refine Reg.pur rfl rfl rfl rfl (Pur.asg rfl) ?_
    refine Reg.nil ?_
    have hfo : findN (.env v n o) k = findN o k := if_neg q16
    exact At.meets rfl (ih (o, Ao) H2 ⟨ho, by rw [hf, hfo], rfl⟩ (by (show SizeOf.sizeOf o < SizeOf.sizeOf (T.env v n o)); simp; omega)) ⟨rfl, rfl, trivial⟩
  first | (simp only [decide_eq_true_eq, decide_eq_false_iff_not, Bool.not_eq_true', Bool.not_eq_false', ne_eq, Decidable.not_not, Bool.not_eq_true, Bool.not_eq_false] at q6) | (dsimp only at q6) | skip
  refine At.region rfl rfl ?_
  refine Reg.pur rfl rfl rfl rfl (Pur.asg rfl) ?_
  refine Reg.nil ?_
  refine At.ret rfl Try.func41 rfl ?_
  obtain ⟨rfl, rfl⟩ := repE_none hq (by simpa using q6)
  exact ⟨.inl ⟨hf, rfl⟩, rfl⟩
theorem nine {c : List Value} (h : c.length = 9) : ∃ a0 a1 a2 a3 a4 a5 a6 a7 a8, c = [a0, a1, a2, a3, a4, a5, a6, a7, a8] := by
  match c, h with
  | [a0, a1, a2, a3, a4, a5, a6, a7, a8], _ => exact ⟨_, _, _, _, _, _, _, _, _, rfl⟩
theorem src_new {H' : Heap} {c : List Value} {b s : Nat} (h : Blk H' b c) (hs : c.length = s) : Src H' (.slice (some ⟨b, 0, none⟩) 1 1) s 1 c :=
  ⟨by omega, _, _, rfl, (fun h => by cases h), .inr ⟨_, _, _, rfl, h, by rw [List.drop_zero, List.take_of_length_le (by omega)]⟩⟩
theorem repF_ones {G : Gh} {f : Fr} {c : List Value} (h : repF G f c) : ones c = true := by
  obtain ⟨p, hc, rfl, h2, h3, h4, _⟩ := h
  obtain ⟨Ap, rfl⟩ := repE_one h4
  simp only [ones, List.all_cons] at h3 ⊢
  rw [h3]; rfl
theorem Ms.app {H H1 H2 H3 : Heap} (h : Ms L N m B G s H fr A cap nd pe pv pd) {xs fc : List Value} {f : Fr} {A' : Option Addr} {cap' : Nat} (hr : repS G fr xs) (hf : repF G f fc) (he : Ext H H1) (hbut : But (fun g => (g : Int) = ob A) H1 H2)
    (g : Gs H2 B 71 9 A' cap' (fr.length + 1) (xs ++ fc)) (hA : ob A' = ob A ∨ ob A' = H1.size) (u : Upd H2 H3 m [N, .slice A' (fr.length + 1) cap', I nd, pe, pv, pd]) :
    Ms L N m B G H3.size H3 (f :: fr) A' cap' nd pe pv pd ∧ But (fun g => g = m ∨ (g : Int) = ob A) H H3 ∧ (ob A' = ob A ∨ (H.size : Int) ≤ ob A') := by
  have z := h.lt
  have z1 := he.1
  have z2 := hbut.1
  have z3 := u.1
  have zg := g.lt
  obtain ⟨An, capn, rfl, hN, hl⟩ := h.ns
  have hb2 : But (fun g => g = m ∨ (g : Int) = ob A) H H3 :=
    (he.but.trans (hbut.mono fun b _ hb => Or.inr hb)).trans (u.but.mono fun b _ hb => Or.inl hb)
  refine ⟨⟨u.own, ⟨_, g.upw u (by omega), xs, fc, rfl, hf, hr⟩, ?_, by omega, by omega, by omega, h.bm, h.len, An, capn, rfl, ?_, hl⟩, hb2, by omega⟩
  · exact (((h.fz.ext he).via hbut (fun g hg => .inr (.inl hg))).upw u (.inl rfl)).re (by omega) (Nat.le_refl _) (by omega)
  · exact (hN.via hb2 (by intro h0 g hg hh; omega))
theorem push_ok {H : Heap} (hM : Ms L N m B G s H fr A cap nd pe pv pd) {f : Fr} {fc : List Value} (hf : repF G f fc) (hl : fr.length ≤ 100000) :
    Ret Try.prog 44 [ptr m 0, .agg fc.toArray] H (fun _ H' => ∃ A' cap', Ms L N m B G H'.size H' (f :: fr) A' cap' nd pe pv pd ∧ But (fun g => g = m ∨ (g : Int) = ob A) H H' ∧ (ob A' = ob A ∨ (H.size : Int) ≤ ob A')) := by
  obtain ⟨a0, a1, a2, a3, a4, a5, a6, a7, a8, rfl⟩ := nine (repF_nine hf)
  have ho1 := repF_ones hf
  have z := hM.lt
  obtain ⟨xs, hg, hr⟩ := hM.arr
  have ho := hM.own
  refine Ret.of_at (N := 14) Try.call44 Try.func44 rfl rfl rfl ?_
  have hE := Ext.refl H
  have z_ho := ho.lt
  have z_hg := hg.lt
  refine At.region rfl rfl ?_
  refine Reg.op rfl rfl rfl rfl (Does.box rfl rfl) ?_
  rintro _ H0_0 ⟨rfl, hn0_0⟩
  have z0_0 := hn0_0.size
  replace ho := ho.ext hn0_0.ext
  replace hg := hg.ext hn0_0.ext
  have o0_0 := hn0_0.own
  refine Reg.nil ?_
  refine At.drawE ((Bks.cons ho.blk (Bks.cons o0_0.blk Bks.nil))) [10] mixed rfl rfl ?_
  refine RegD.tpur (i := 0) rfl rfl rfl rfl (by kernel_rfl) (Pur.mv rfl) ?_
  refine RegD.tpur (i := 1) rfl rfl rfl rfl (by kernel_rfl) (Pur.mv rfl) ?_
  refine RegD.tpur (i := 2) rfl rfl rfl rfl (by kernel_rfl) (Pur.nilc rfl) ?_
  refine RegD.tpur (i := 3) rfl rfl rfl rfl (by kernel_rfl) (Pur.fld _ fo51_1 rfl) ?_
  refine RegD.take (i := 4) rfl rfl rfl rfl (by kernel_rfl) (Bks.cons ho.blk (Bks.cons o0_0.blk Bks.nil)) (fun H hS => Lod.ld sc46 rfl hS.hd rfl) ?_
  refine RegD.take (i := 5) rfl rfl rfl rfl (by kernel_rfl) (Bks.cons ho.blk (Bks.cons o0_0.blk Bks.nil)) (fun H hS => Lod.ldn ag71 rfl hS.tl.hd (whole rfl) rfl) ?_
  refine RegD.one (i := 6) (by kernel_rfl) rfl rfl rfl rfl (Does.bslA ([[_, _, _, _, _, _, _, _, _]]) slA46 rfl rfl rfl rfl rfl rfl) ?_
  rintro _ H1_6 ⟨rfl, hp1_6⟩
  have hn1_6 := New.of_eq hp1_6
  have z1_6 := hn1_6.size
  replace ho := ho.ext hn1_6.ext
  replace hg := hg.ext hn1_6.ext
  replace o0_0 := o0_0.ext hn1_6.ext
  have o1_6 := hn1_6.own
  refine ⟨fun _ _ => (Bks.cons ho.blk (Bks.cons o0_0.blk Bks.nil)), ?_⟩

  refine RegD.one (i := 7) (by kernel_rfl) rfl rfl rfl rfl (Does.appS apt46 rfl rfl (by decide) hg (src_new (s := 9) o1_6.blk rfl) (by simpa [ones] using ho1) (by omega) (by omega)) ?_
  rintro _ H1_7 ⟨A1_7, cap1_7, rfl, g1_7, hbut1_7, ha1_7⟩
  have z1_7 := hbut1_7.lt
  replace ho := ho.via hbut1_7 (by first | omega | (intro g; omega) | (intro g hg; omega) | (intro g hg h; omega))
  replace o0_0 := o0_0.via hbut1_7 (by first | omega | (intro g; omega) | (intro g hg; omega) | (intro g hg h; omega))
  replace o1_6 := o1_6.via hbut1_7 (by first | omega | (intro g; omega) | (intro g hg; omega) | (intro g hg h; omega))
  refine ⟨fun _ _ => (Bks.cons ho.blk (Bks.cons o0_0.blk Bks.nil)), ?_⟩
  refine RegD.tpur (i := 8) rfl rfl rfl rfl (by kernel_rfl) (Pur.nilc rfl) ?_
  refine RegD.tpur (i := 9) rfl rfl rfl rfl (by kernel_rfl) (Pur.fld _ fo51_1 rfl) ?_
  refine RegD.one0 (i := 10) (by kernel_rfl) rfl rfl rfl (Does.st sc46 rfl rfl rfl ho (by first | decide | (simp; done) | (simp; omega) | omega)) ?_
  rintro _ H1_10 hu1_10
  have z1_10 := hu1_10.size
  replace o0_0 := o0_0.upw hu1_10 (by omega)
  replace o1_6 := o1_6.upw hu1_10 (by omega)
  replace ho := hu1_10.own
  refine ⟨fun h => (by cases h), ?_⟩
  refine RegD.done (by kernel_rfl) ?_
  refine At.fall rfl Try.func44 rfl ?_
  obtain ⟨r1, r2, r3⟩ := hM.app hr hf (hn0_0.ext.trans hn1_6.ext) hbut1_7 (by simpa using g1_7) (by omega) hu1_10
  exact ⟨A1_7, cap1_7, r1, r2, r3⟩
end Go.Proofs.Ytjhkmebmbopfoaa
