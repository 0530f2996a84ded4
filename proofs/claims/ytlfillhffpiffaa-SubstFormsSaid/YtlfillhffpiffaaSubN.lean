/-
  Binds copied and compared; types spoilt.
-/
import Derived.Test.YtlfillhffpiffaaSubM
namespace Go.Proofs.Ytlfillhffpiffaa
set_option linter.unusedSimpArgs false
set_option linter.unusedVariables false
set_option maxRecDepth 8000
open Go Go.Fx Go.Proofs
namespace FactsSubN
theorem ag25 : ag Try.prog 25 = some 1 := by kernel_rfl
theorem ag28 : ag Try.prog 28 = some 5 := by kernel_rfl
theorem ag49 : ag Try.prog 49 = some 8 := by kernel_rfl
theorem apt22 : appT Try.prog 22 = some (49, 8, 80) := by kernel_rfl
theorem eqt28 : eqT Try.prog 28 = some [.int .i64, .int .i64, .int .i64, .int .i64, .int .i64] := by kernel_rfl
theorem es22 : esz Try.prog 22 = some 8 := by kernel_rfl
theorem fo49_0 : foff Try.prog 49 0 = some 0 := by kernel_rfl
theorem fo49_1 : foff Try.prog 49 1 = some 1 := by kernel_rfl
theorem fo49_2 : foff Try.prog 49 2 = some 2 := by kernel_rfl
theorem fo49_3 : foff Try.prog 49 3 = some 3 := by kernel_rfl
theorem isl22 : isSl Try.prog 22 = true := by kernel_rfl
theorem mixed : Try.prog.follows .mixedOrders = true := by kernel_rfl
theorem sc3 : sc Try.prog 3 = true := by kernel_rfl
theorem sc4 : sc Try.prog 4 = true := by kernel_rfl
theorem slA22 : slA Try.prog 22 = some (49, 8) := by kernel_rfl
theorem zc49 : zc Try.prog 49 = some [.int .i64 0, .bool false, .slice none 0 0, .int .i64 0, .int .i64 0, .int .i64 0, .int .i64 0, .int .i64 0] := by kernel_rfl
end FactsSubN
open FactsSubN

/-- a bind without where it lies -/
def pl (b : Bd) : Int × Bool × List (List Int) × List Int := (b.var, b.isRow, b.nodes, b.row)
theorem Bd.Ok.via {H H' : Heap} {S : Nat → Prop} {b : Bd} (h : b.Ok H) (he : But S H H') (hs : b.nodes.length ≠ 0 → ∀ g : Nat, (g : Int) = ob b.A → ¬ S g) : b.Ok H' :=
  ⟨h.sl.via he hs, h.nine, h.row, h.fits⟩
theorem Bd.Ok.upw {H H' : Heap} {x : Nat} {c : List Value} {b : Bd} (h : b.Ok H) (u : Upd H H' x c) (hs : b.nodes.length = 0 ∨ ob b.A ≠ x) : b.Ok H' :=
  ⟨h.sl.upw u hs, h.nine, h.row, h.fits⟩
theorem Bd.Ok.lt {H : Heap} {b : Bd} (h : b.Ok H) : b.nodes.length = 0 ∨ (0 ≤ ob b.A ∧ ob b.A < H.size) := h.sl.lt
/-- binds, none of them in block g -/
def Oks (H : Heap) (g : Int) (L : List Bd) : Prop := ∀ b ∈ L, b.Ok H ∧ (b.nodes.length = 0 ∨ ob b.A ≠ g)
theorem Oks.ext {H H' : Heap} {g : Int} {L : List Bd} (h : Oks H g L) (he : Ext H H') : Oks H' g L := fun b hb => ⟨(h b hb).1.ext he, (h b hb).2⟩

/-- binds that lie from block lo on -/
def BdsFrom (lo : Nat) (A : Option Addr) (L : List Bd) : Prop := (L.length = 0 ∨ (lo : Int) ≤ ob A) ∧ ∀ b ∈ L, b.nodes.length = 0 ∨ (lo : Int) ≤ ob b.A
theorem Bds.via {H H' : Heap} {S : Nat → Prop} {A : Option Addr} {n cap : Nat} {L : List Bd} (h : Bds H (.slice A n cap) L) (he : But S H H') (hs : L.length ≠ 0 → ∀ g : Nat, (g : Int) = ob A → ¬ S g) (hb : ∀ b ∈ L, b.nodes.length ≠ 0 → ∀ g : Nat, (g : Int) = ob b.A → ¬ S g) : Bds H' (.slice A n cap) L :=
  ⟨h.sl.via he hs, fun b hm => (h.ok b hm).via he (hb b hm), h.fits⟩
theorem Bds.lt' {H : Heap} {A : Option Addr} {n cap : Nat} {L : List Bd} (h : Bds H (.slice A n cap) L) : (L.length = 0 ∨ (0 ≤ ob A ∧ ob A < H.size)) ∧ ∀ b ∈ L, b.nodes.length = 0 ∨ (0 ≤ ob b.A ∧ ob b.A < H.size) :=
  ⟨h.sl.lt, fun b hb => (h.ok b hb).lt⟩
theorem copyBinds_ok {A : Option Addr} {cap : Nat} {Bs : List Bd} {H : Heap} (hB : Bds H (.slice A Bs.length cap) Bs) :
    Ret Try.prog 18 [.slice A Bs.length cap] H (fun v H' => ∃ A' cap' Bs', v = .slice A' Bs'.length cap' ∧ Bds H' (.slice A' Bs'.length cap') Bs' ∧ Bs'.map pl = Bs.map pl ∧ BdsFrom H.size A' Bs' ∧ Ext H H') := by
  have hbl := hB.fits
  refine Ret.of_at (N := 25) Try.call18 Try.func18 rfl rfl rfl ?_
  have hE := Ext.refl H
  refine At.region rfl rfl ?_
  refine Reg.pur rfl rfl rfl rfl (Pur.asg rfl) ?_
  refine Reg.nil ?_
  refine At.region rfl rfl ?_
  refine Reg.pur rfl rfl rfl rfl (Pur.asg rfl) ?_
  refine Reg.nil ?_
  refine At.region rfl rfl ?_
  refine Reg.pur rfl rfl rfl rfl (Pur.asg rfl) ?_
  refine Reg.nil ?_
  refine At.loop (σ := Nat × List Bd × Option Addr × Nat) (fun (i, out, A', cap') => [(4, I i), (3, .slice A' out.length cap'), (0, .slice A Bs.length cap)]) (fun (i, out, A', cap') H' => i ≤ Bs.length ∧ out.map pl = (Bs.take i).map pl ∧ Oks H' (ob A') out ∧ (∀ b ∈ out, b.nodes.length = 0 ∨ (H.size : Int) ≤ ob b.A) ∧ Gs H' H.size 49 8 A' cap' out.length (out.flatMap encB) ∧ Ext H H') (fun s => Bs.length - s.1) (0, [], none, 0) rfl ⟨rfl, rfl, rfl, trivial⟩ ⟨by omega, rfl, (fun x hx => by cases hx), (fun x hx => by cases hx), OwnS.nilG, hE⟩ ?_
  rintro ⟨i, out, A', cap'⟩ H3 ⟨hi, hmap, hoks, hfr, hg, hE⟩ ih
  dsimp only at hi hmap hoks hfr hg ⊢
  have z_hE := hE.lt
  have z_hg := hg.lt
  have hL := Ext.refl H3
  have z_hL := hL.lt
  refine At.region rfl rfl ?_
  refine Reg.pur rfl rfl rfl rfl (Pur.mv rfl) ?_
  refine Reg.pur rfl rfl rfl rfl (Pur.mv rfl) ?_
  refine Reg.pur rfl rfl rfl rfl (Pur.lenS isl22 rfl) ?_
  refine Reg.pur rfl rfl rfl rfl (Pur.lss rfl rfl) ?_
  refine Reg.nil ?_
  refine At.cond rfl rfl (fun q9 => ?_) (fun q9 => ?_)
  · first | (simp only [decide_eq_true_eq, decide_eq_false_iff_not, Bool.not_eq_true', Bool.not_eq_false', ne_eq, Decidable.not_not, Bool.not_eq_true, Bool.not_eq_false] at q9) | (dsimp only at q9) | skip
    have hlt : i < Bs.length := by omega
    obtain ⟨b, o, c, rfl, hB0, hd, _⟩ := (hB.ext hE).at hlt
    have hok := hB.ok _ (List.getElem_mem hlt)
    have hlen := congrArg List.length hmap
    simp only [List.length_map, List.length_take] at hlen
    have hnx : (Bs.take (i + 1)).map pl = out.map pl ++ [pl Bs[i]] := by rw [List.take_succ_eq_append_getElem hlt, List.map_append, ← hmap]; rfl
    generalize Bs[i] = bd at hd hok hnx
    have hrl := hok.row
    refine At.region rfl rfl ?_
    refine Reg.pur rfl rfl rfl rfl (Pur.mv rfl) ?_
    refine Reg.pur rfl rfl rfl rfl (Pur.mv rfl) ?_
    refine Reg.pur rfl rfl rfl rfl (Pur.idx _ es22 rfl rfl (by omega) (by omega)) ?_
    refine Reg.lod rfl rfl rfl rfl (Lod.ldn ag49 rfl hB0 hd hok.len) ?_
    refine Reg.op rfl rfl rfl rfl (Does.alloc zc49) ?_
    rintro _ H5_4 ⟨rfl, hn5_4⟩
    have z5_4 := hn5_4.size
    replace hE := hE.ext hn5_4.ext
    replace hg := hg.ext hn5_4.ext
    first | replace hL := hL.ext hn5_4.ext | skip
    have o5_4 := hn5_4.own
    refine Reg.op0 rfl rfl rfl (Does.stn ag49 rfl rfl (by first | rfl | exact ones_Is _) (by first | rfl | (simp [*]; done)) o5_4 (by first | decide | (simp; done) | (simp; omega) | omega)) ?_
    rintro _ H5_5 hu5_5
    have z5_5 := hu5_5.size
    replace hE := hE.upw hu5_5 (by omega)
    replace hg := hg.upw hu5_5 (by omega)
    first | replace hL := hL.upw hu5_5 (by omega) | skip
    replace o5_4 := hu5_5.own
    first | rw [over (by first | rfl | (simp; done))] at o5_4 | skip
    refine Reg.nil ?_
    refine At.region rfl rfl ?_
    refine Reg.pur rfl rfl rfl rfl (Pur.fld _ fo49_2 rfl) ?_
    refine Reg.lod rfl rfl rfl rfl (Lod.ldn ag25 rfl o5_4.blk (show _ = [bd.sl] from rfl) rfl) ?_
    refine Reg.op rfl rfl rfl rfl (Does.call rfl (copyType_ok hok.nine (hok.sl.ext hE) hok.fits)) ?_
    rintro _ H6_2 ⟨A2, cap2, rfl, ho2, hE6_2⟩
    have z6_2 := hE6_2.lt
    replace hE := hE.ext hE6_2
    replace hg := hg.ext hE6_2
    first | replace hL := hL.ext hE6_2 | skip
    replace o5_4 := o5_4.ext hE6_2
    have z_ho2 := ho2.lt
    refine Reg.pur rfl rfl rfl rfl (Pur.fld _ fo49_2 rfl) ?_
    refine Reg.op0 rfl rfl rfl (Does.stn ag25 rfl rfl (by first | rfl | exact ones_Is _) (by first | rfl | (simp [*]; done)) o5_4 (by first | decide | (simp; done) | (simp; omega) | omega)) ?_
    rintro _ H6_4 hu6_4
    have z6_4 := hu6_4.size
    replace hE := hE.upw hu6_4 (by omega)
    replace hg := hg.upw hu6_4 (by omega)
    first | replace hL := hL.upw hu6_4 (by omega) | skip
    replace ho2 := ho2.upw hu6_4 (by omega)
    replace o5_4 := hu6_4.own
    first | rw [over (by first | rfl | (simp; done))] at o5_4 | skip
    replace o5_4 : Own H6_4 H3.size (encB { bd with A := A2, cap := cap2 }) := o5_4
    refine Reg.nil ?_
    have hl8 : (encB { bd with A := A2, cap := cap2 }).length = 8 := by simp [hok.row]
    refine At.region rfl rfl ?_
    refine Reg.pur rfl rfl rfl rfl (Pur.mv rfl) ?_
    refine Reg.lod rfl rfl rfl rfl (Lod.ldn ag49 rfl o5_4.blk (whole hl8) hl8) ?_
    refine Reg.op rfl rfl rfl rfl (Does.bslA ([encB { bd with A := A2, cap := cap2 }]) slA22 rfl rfl rfl (by simp [hok.row]) rfl rfl) ?_
    rintro _ H7_2 ⟨rfl, hp7_2⟩
    have hn7_2 := New.of_eq hp7_2
    have z7_2 := hn7_2.size
    replace hE := hE.ext hn7_2.ext
    replace hg := hg.ext hn7_2.ext
    first | replace hL := hL.ext hn7_2.ext | skip
    replace o5_4 := o5_4.ext hn7_2.ext
    replace ho2 := ho2.ext hn7_2.ext
    have o7_2 := hn7_2.own

    refine Reg.op rfl rfl rfl rfl (Does.appL apt22 rfl rfl (by decide) hg (fun x hx ↦ by simp at hx; subst hx; exact hl8) (sl_one (x := { bd with A := A2, cap := cap2 }) hl8 (by decide) hn7_2) (by simp [ones, Value.oneCell']) (by simp; omega) (by omega)) ?_
    rintro _ H7_3 ⟨A7_3, cap7_3, rfl, g7_3, hbut7_3, ha7_3⟩
    have z7_3 := hbut7_3.lt
    replace hE := hE.via hbut7_3 (by first | omega | (intro g; omega) | (intro g hg; omega) | (intro g hg h; omega))
    replace o5_4 := o5_4.via hbut7_3 (by first | omega | (intro g; omega) | (intro g hg; omega) | (intro g hg h; omega))
    replace ho2 := ho2.via hbut7_3 (by first | omega | (intro g; omega) | (intro g hg; omega) | (intro g hg h; omega))
    replace o7_2 := o7_2.via hbut7_3 (by first | omega | (intro g; omega) | (intro g hg; omega) | (intro g hg h; omega))
    replace hg := g7_3
    have zg7_3 := g7_3.lt
    refine Reg.pur rfl rfl rfl rfl (Pur.asg rfl) ?_
    refine Reg.nil ?_
    refine At.region rfl rfl ?_
    refine Reg.pur rfl rfl rfl rfl (Pur.mv rfl) ?_
    first | refine Reg.pur rfl rfl rfl rfl (Pur.add64 rfl rfl (by omega)) ?_ | refine Reg.pur rfl rfl rfl rfl (Pur.add64 rfl rfl (by assumption)) ?_ | refine Reg.pur rfl rfl rfl rfl (Pur.add rfl rfl) ?_
    refine Reg.pur rfl rfl rfl rfl (Pur.asg rfl) ?_
    refine Reg.nil ?_
    have hok2 : Bd.Ok H7_3 { bd with A := A2, cap := cap2 } := ⟨own_sl (wide9 hok.nine) (by decide) ho2, hok.nine, hok.row, hok.fits⟩
    refine At.via (ih (i + 1, out ++ [{ bd with A := A2, cap := cap2 }], A7_3, cap7_3) _ ⟨by omega, by rw [hnx, List.map_append]; rfl, ?_, fun x hx => (List.mem_append.1 hx).elim (hfr x) (fun hx => by simp at hx; subst hx; have h4 := hok2.lt; dsimp only at h4 ⊢; omega), hg, hE⟩ (by simp only; omega)) ⟨rfl, rfl, rfl, trivial⟩
    intro x hx
    rcases List.mem_append.1 hx with hx | hx
    · have h1 := hoks x hx
      have h2 := h1.1.lt
      have h3 := h1.2
      exact ⟨(h1.1.ext hL).via hbut7_3 (fun h0 g hg => by omega), by omega⟩
    · simp at hx; subst hx; have h4 := hok2.lt; exact ⟨hok2, by dsimp only at h4 ⊢; omega⟩
  · first | (simp only [decide_eq_true_eq, decide_eq_false_iff_not, Bool.not_eq_true', Bool.not_eq_false', ne_eq, Decidable.not_not, Bool.not_eq_true, Bool.not_eq_false] at q9) | (dsimp only at q9) | skip
    refine At.region rfl rfl ?_
    refine Reg.pur rfl rfl rfl rfl (Pur.mv rfl) ?_
    refine Reg.pur rfl rfl rfl rfl (Pur.asg rfl) ?_
    refine Reg.nil ?_
    refine At.ret rfl Try.func18 rfl ?_
    rw [List.take_of_length_le (by omega)] at hmap
    have hlen := congrArg List.length hmap
    simp only [List.length_map] at hlen
    exact ⟨A', cap', out, rfl, ⟨own_sl (fun x hx => (hoks x hx).1.len) (by decide) hg, fun x hx => (hoks x hx).1, by omega⟩, hmap, ⟨by have := hg.lt; have := (own_sl (fun x hx => (hoks x hx).1.len) (by decide) hg).lt; omega, hfr⟩, hE⟩

theorem spoilO_ok {A : Option Addr} {cap B : Nat} {L : List (List Int)} (hL : Nine L) {H : Heap} (hm : L.length ≤ 9223372036854775807) (ho : OwnS H B 47 9 (.slice A L.length cap) L.length (L.flatMap Is)) :
    Ret Try.prog 26 [Ty A L.length cap] H (fun v H' => But (fun g => (g : Int) = ob A) H H') := by
  by_cases h0 : L.length = 0
  · refine (spoilT_ok (g := H.size) (c0 := []) hL hm (.inl h0)).mono ?_
    rintro v H' (⟨_, h⟩ | h)
    · exact h.but
    · exact h.mono (fun b hb e => by omega)
  · obtain ⟨g, c, rfl, h1, h2, h3⟩ := ho.blk (by omega)
    refine (spoilT_ok (g := g) hL hm (.inr ⟨rfl, h1, h2⟩)).mono ?_
    rintro v H' (⟨_, h⟩ | h)
    · exact h.but
    · exact h.mono (fun b hb e => by subst e; rfl)

theorem take1_map {α β : Type} {f : α → β} {L L' : List α} {i : Nat} (h : i < L.length) (h' : i < L'.length) (hp : (L.take i).map f = (L'.take i).map f) (hx : f L[i] = f L'[i]) : (L.take (i + 1)).map f = (L'.take (i + 1)).map f := by
  rw [List.take_succ_eq_append_getElem h, List.take_succ_eq_append_getElem h', List.map_append, List.map_append, hp, List.map_cons, List.map_cons, hx]
theorem ne_at {α β : Type} {f : α → β} {L L' : List α} {i : Nat} (h : i < L.length) (h' : i < L'.length) (hx : f L[i] ≠ f L'[i]) : L.map f ≠ L'.map f := by
  intro e
  have := congrArg (fun l => l[i]?) e
  simp [h, h'] at this
  exact hx this

theorem sameBinds_ok {A A' : Option Addr} {cap cap' : Nat} {Bs Cs : List Bd} {H : Heap} (hB : Bds H (.slice A Bs.length cap) Bs) (hC : Bds H (.slice A' Cs.length cap') Cs) :
    Ret Try.prog 27 [.slice A Bs.length cap, .slice A' Cs.length cap'] H (fun v H' => v = .bool (decide (Bs.map pl = Cs.map pl)) ∧ Ext H H') := by
  have hbl := hB.fits
  refine Ret.of_at (N := 68) Try.call27 Try.func27 rfl rfl rfl ?_
  have hE := Ext.refl H
  refine At.region rfl rfl ?_
  refine Reg.pur rfl rfl rfl rfl (Pur.asg rfl) ?_
  refine Reg.nil ?_
  refine At.region rfl rfl ?_
  refine Reg.pur rfl rfl rfl rfl (Pur.mv rfl) ?_
  refine Reg.pur rfl rfl rfl rfl (Pur.lenS isl22 rfl) ?_
  refine Reg.pur rfl rfl rfl rfl (Pur.mv rfl) ?_
  refine Reg.pur rfl rfl rfl rfl (Pur.lenS isl22 rfl) ?_
  refine Reg.pur rfl rfl rfl rfl (Pur.neq rfl rfl) ?_
  refine Reg.nil ?_
  refine At.cond rfl rfl (fun q10 => ?_) (fun q10 => ?_)
  · first | (simp only [decide_eq_true_eq, decide_eq_false_iff_not, Bool.not_eq_true', Bool.not_eq_false', ne_eq, Decidable.not_not, Bool.not_eq_true, Bool.not_eq_false] at q10) | (dsimp only at q10) | skip
    refine At.region rfl rfl ?_
    refine Reg.pur rfl rfl rfl rfl (Pur.asg rfl) ?_
    refine Reg.nil ?_
    refine At.ret rfl Try.func27 rfl ?_
    exact ⟨congrArg Value.bool (decide_eq_false fun e => by have := congrArg List.length e; simp only [List.length_map] at this; omega).symm, hE⟩
  · first | (simp only [decide_eq_true_eq, decide_eq_false_iff_not, Bool.not_eq_true', Bool.not_eq_false', ne_eq, Decidable.not_not, Bool.not_eq_true, Bool.not_eq_false] at q10) | (dsimp only at q10) | skip
    refine At.region rfl rfl ?_
    refine Reg.pur rfl rfl rfl rfl (Pur.asg rfl) ?_
    refine Reg.nil ?_
    have hll : Bs.length = Cs.length := by omega
    refine At.loop (σ := Nat) (fun i => [(5, I i), (0, .slice A Bs.length cap), (1, .slice A' Cs.length cap')]) (fun i H' => i ≤ Bs.length ∧ (Bs.take i).map pl = (Cs.take i).map pl ∧ Ext H H') (fun i => Bs.length - i) 0 rfl ⟨rfl, rfl, rfl, trivial⟩ ⟨by omega, rfl, hE⟩ ?_
    rintro i H3 ⟨hi, hmap, hE⟩ ih
    have z_hE := hE.lt
    refine At.region rfl rfl ?_
    refine Reg.pur rfl rfl rfl rfl (Pur.mv rfl) ?_
    refine Reg.pur rfl rfl rfl rfl (Pur.mv rfl) ?_
    refine Reg.pur rfl rfl rfl rfl (Pur.lenS isl22 rfl) ?_
    refine Reg.pur rfl rfl rfl rfl (Pur.lss rfl rfl) ?_
    refine Reg.nil ?_
    refine At.cond rfl rfl (fun q14 => ?_) (fun q14 => ?_)
    · first | (simp only [decide_eq_true_eq, decide_eq_false_iff_not, Bool.not_eq_true', Bool.not_eq_false', ne_eq, Decidable.not_not, Bool.not_eq_true, Bool.not_eq_false] at q14) | (dsimp only at q14) | skip
      have hlt : i < Bs.length := by omega
      have hlt' : i < Cs.length := by omega
      obtain ⟨b, o, c, rfl, hB0, hd, _⟩ := (hB.ext hE).at hlt
      obtain ⟨b', o', c', rfl, hB0', hd', _⟩ := (hC.ext hE).at hlt'
      have hok := hB.ok _ (List.getElem_mem hlt)
      have hok' := hC.ok _ (List.getElem_mem hlt')
      have hgo := take1_map hlt hlt' hmap
      have hne := ne_at (f := pl) hlt hlt'
      generalize Bs[i] = bd at hd hok hgo hne
      generalize Cs[i] = bd' at hd' hok' hgo hne
      have hr := hok.row
      have hr' := hok'.row
      have hf := fks_ints .i64 bd.row
      have hf' := fks_ints .i64 bd'.row
      rw [hr] at hf
      rw [hr'] at hf'
      have hq := eqs_ints .i64 bd.row bd'.row
      have z_hB0 := hB0.lt
      have z_hB0' := hB0'.lt
      refine At.drawE ((Bks.cons hB0.blk (Bks.cons hB0'.blk Bks.nil))) [] mixed rfl rfl ?_
      refine RegD.tpur (i := 0) rfl rfl rfl rfl (by kernel_rfl) (Pur.mv rfl) ?_
      refine RegD.tpur (i := 1) rfl rfl rfl rfl (by kernel_rfl) (Pur.mv rfl) ?_
      refine RegD.tpur (i := 2) rfl rfl rfl rfl (by kernel_rfl) (Pur.idx _ es22 rfl rfl (by omega) (by omega)) ?_
      refine RegD.tpur (i := 3) rfl rfl rfl rfl (by kernel_rfl) (Pur.fld _ fo49_0 rfl) ?_
      refine RegD.take (i := 4) rfl rfl rfl rfl (by kernel_rfl) (Bks.cons hB0.blk (Bks.cons hB0'.blk Bks.nil)) (fun H hS => Lod.ld sc3 rfl hS.hd (at_tk (j := 0) hd (by decide) rfl)) ?_
      refine RegD.tpur (i := 5) rfl rfl rfl rfl (by kernel_rfl) (Pur.mv rfl) ?_
      refine RegD.tpur (i := 6) rfl rfl rfl rfl (by kernel_rfl) (Pur.mv rfl) ?_
      refine RegD.tpur (i := 7) rfl rfl rfl rfl (by kernel_rfl) (Pur.idx _ es22 rfl rfl (by omega) (by omega)) ?_
      refine RegD.tpur (i := 8) rfl rfl rfl rfl (by kernel_rfl) (Pur.fld _ fo49_0 rfl) ?_
      refine RegD.take (i := 9) rfl rfl rfl rfl (by kernel_rfl) (Bks.cons hB0.blk (Bks.cons hB0'.blk Bks.nil)) (fun H hS => Lod.ld sc3 rfl hS.tl.hd (at_tk (j := 0) hd' (by decide) rfl)) ?_
      refine RegD.tpur (i := 10) rfl rfl rfl rfl (by kernel_rfl) (Pur.neq rfl rfl) ?_
      refine RegD.tpur (i := 11) rfl rfl rfl rfl (by kernel_rfl) (Pur.mv rfl) ?_
      refine RegD.case 28 rfl (fun q28 => ?_) (fun q28 => ?_)
      · first | (simp only [decide_eq_true_eq, decide_eq_false_iff_not, Bool.not_eq_true', Bool.not_eq_false', ne_eq, Decidable.not_not, Bool.not_eq_true, Bool.not_eq_false] at q28) | (dsimp only at q28) | skip
        refine RegD.skip (i := 12) rfl rfl rfl rfl rfl rfl rfl (by kernel_rfl) ?_
        refine RegD.skip (i := 13) rfl rfl rfl rfl rfl rfl rfl (by kernel_rfl) ?_
        refine RegD.skip (i := 14) rfl rfl rfl rfl rfl rfl rfl (by kernel_rfl) ?_
        refine RegD.skip (i := 15) rfl rfl rfl rfl rfl rfl rfl (by kernel_rfl) ?_
        refine RegD.skip (i := 16) rfl rfl rfl rfl rfl rfl rfl (by kernel_rfl) ?_
        refine RegD.skip (i := 17) rfl rfl rfl rfl rfl rfl rfl (by kernel_rfl) ?_
        refine RegD.skip (i := 18) rfl rfl rfl rfl rfl rfl rfl (by kernel_rfl) ?_
        refine RegD.skip (i := 19) rfl rfl rfl rfl rfl rfl rfl (by kernel_rfl) ?_
        refine RegD.skip (i := 20) rfl rfl rfl rfl rfl rfl rfl (by kernel_rfl) ?_
        refine RegD.skip (i := 21) rfl rfl rfl rfl rfl rfl rfl (by kernel_rfl) ?_
        refine RegD.skip (i := 22) rfl rfl rfl rfl rfl rfl rfl (by kernel_rfl) ?_
        refine RegD.tpur (i := 23) rfl rfl rfl rfl (by kernel_rfl) (Pur.pickT rfl rfl) ?_
        refine RegD.tpur (i := 24) rfl rfl rfl rfl (by kernel_rfl) (Pur.mv rfl) ?_
        refine RegD.skip (i := 25) rfl rfl rfl rfl rfl rfl rfl (by kernel_rfl) ?_
        refine RegD.skip (i := 26) rfl rfl rfl rfl rfl rfl rfl (by kernel_rfl) ?_
        refine RegD.skip (i := 27) rfl rfl rfl rfl rfl rfl rfl (by kernel_rfl) ?_
        refine RegD.skip (i := 28) rfl rfl rfl rfl rfl rfl rfl (by kernel_rfl) ?_
        refine RegD.skip (i := 29) rfl rfl rfl rfl rfl rfl rfl (by kernel_rfl) ?_
        refine RegD.skip (i := 30) rfl rfl rfl rfl rfl rfl rfl (by kernel_rfl) ?_
        refine RegD.skip (i := 31) rfl rfl rfl rfl rfl rfl rfl (by kernel_rfl) ?_
        refine RegD.skip (i := 32) rfl rfl rfl rfl rfl rfl rfl (by kernel_rfl) ?_
        refine RegD.skip (i := 33) rfl rfl rfl rfl rfl rfl rfl (by kernel_rfl) ?_
        refine RegD.skip (i := 34) rfl rfl rfl rfl rfl rfl rfl (by kernel_rfl) ?_
        refine RegD.skip (i := 35) rfl rfl rfl rfl rfl rfl rfl (by kernel_rfl) ?_
        refine RegD.tpur (i := 36) rfl rfl rfl rfl (by kernel_rfl) (Pur.pickT rfl rfl) ?_
        refine RegD.tpur (i := 37) rfl rfl rfl rfl (by kernel_rfl) (Pur.mv rfl) ?_
        refine RegD.skip (i := 38) rfl rfl rfl rfl rfl rfl rfl (by kernel_rfl) ?_
        refine RegD.skip (i := 39) rfl rfl rfl rfl rfl rfl rfl (by kernel_rfl) ?_
        refine RegD.skip (i := 40) rfl rfl rfl rfl rfl rfl rfl (by kernel_rfl) ?_
        refine RegD.skip (i := 41) rfl rfl rfl rfl rfl rfl rfl (by kernel_rfl) ?_
        refine RegD.skip (i := 42) rfl rfl rfl rfl rfl rfl rfl (by kernel_rfl) ?_
        refine RegD.skip (i := 43) rfl rfl rfl rfl rfl rfl rfl (by kernel_rfl) ?_
        refine RegD.skip (i := 44) rfl rfl rfl rfl rfl rfl rfl (by kernel_rfl) ?_
        refine RegD.skip (i := 45) rfl rfl rfl rfl rfl rfl rfl (by kernel_rfl) ?_
        refine RegD.skip (i := 46) rfl rfl rfl rfl rfl rfl rfl (by kernel_rfl) ?_
        refine RegD.skip (i := 47) rfl rfl rfl rfl rfl rfl rfl (by kernel_rfl) ?_
        refine RegD.skip (i := 48) rfl rfl rfl rfl rfl rfl rfl (by kernel_rfl) ?_
        refine RegD.skip (i := 49) rfl rfl rfl rfl rfl rfl rfl (by kernel_rfl) ?_
        refine RegD.tpur (i := 50) rfl rfl rfl rfl (by kernel_rfl) (Pur.pickT rfl rfl) ?_
        refine RegD.done (by kernel_rfl) ?_
        refine At.condT rfl rfl rfl ?_
        refine At.region rfl rfl ?_
        refine Reg.pur rfl rfl rfl rfl (Pur.asg rfl) ?_
        refine Reg.nil ?_
        refine At.ret rfl Try.func27 rfl ?_
        refine ⟨congrArg Value.bool (decide_eq_false (hne ?_)).symm, hE⟩
        intro e
        simp only [pl, Prod.mk.injEq] at e
        obtain ⟨e1, e2, e3, e4⟩ := e
        first | exact q28 e1 | (rw [e2] at q41; simp at q41; done) | (rw [hq, e4] at q54; simp at q54; done) | exact q67 e3
      · first | (simp only [decide_eq_true_eq, decide_eq_false_iff_not, Bool.not_eq_true', Bool.not_eq_false', ne_eq, Decidable.not_not, Bool.not_eq_true, Bool.not_eq_false] at q28) | (dsimp only at q28) | skip
        refine RegD.gtpur (i := 12) rfl rfl rfl rfl rfl rfl (by kernel_rfl) (Pur.mv rfl) ?_
        refine RegD.gtpur (i := 13) rfl rfl rfl rfl rfl rfl (by kernel_rfl) (Pur.mv rfl) ?_
        refine RegD.gtpur (i := 14) rfl rfl rfl rfl rfl rfl (by kernel_rfl) (Pur.idx _ es22 rfl rfl (by omega) (by omega)) ?_
        refine RegD.gtpur (i := 15) rfl rfl rfl rfl rfl rfl (by kernel_rfl) (Pur.fld _ fo49_1 rfl) ?_
        refine RegD.gtake (i := 16) rfl rfl rfl rfl rfl rfl (by kernel_rfl) (Bks.cons hB0.blk (Bks.cons hB0'.blk Bks.nil)) (fun H hS => Lod.ld sc4 rfl hS.hd (at_tk (j := 1) hd (by decide) rfl)) ?_
        refine RegD.gtpur (i := 17) rfl rfl rfl rfl rfl rfl (by kernel_rfl) (Pur.mv rfl) ?_
        refine RegD.gtpur (i := 18) rfl rfl rfl rfl rfl rfl (by kernel_rfl) (Pur.mv rfl) ?_
        refine RegD.gtpur (i := 19) rfl rfl rfl rfl rfl rfl (by kernel_rfl) (Pur.idx _ es22 rfl rfl (by omega) (by omega)) ?_
        refine RegD.gtpur (i := 20) rfl rfl rfl rfl rfl rfl (by kernel_rfl) (Pur.fld _ fo49_1 rfl) ?_
        refine RegD.gtake (i := 21) rfl rfl rfl rfl rfl rfl (by kernel_rfl) (Bks.cons hB0.blk (Bks.cons hB0'.blk Bks.nil)) (fun H hS => Lod.ld sc4 rfl hS.tl.hd (at_tk (j := 1) hd' (by decide) rfl)) ?_
        refine RegD.gtpur (i := 22) rfl rfl rfl rfl rfl rfl (by kernel_rfl) (Pur.neB Try.underlying4 rfl rfl) ?_
        refine RegD.tpur (i := 23) rfl rfl rfl rfl (by kernel_rfl) (Pur.pickF rfl rfl) ?_
        refine RegD.tpur (i := 24) rfl rfl rfl rfl (by kernel_rfl) (Pur.mv rfl) ?_
        refine RegD.case 41 rfl (fun q41 => ?_) (fun q41 => ?_)
        · first | (simp only [decide_eq_true_eq, decide_eq_false_iff_not, Bool.not_eq_true', Bool.not_eq_false', ne_eq, Decidable.not_not, Bool.not_eq_true, Bool.not_eq_false] at q41) | (dsimp only at q41) | skip
          refine RegD.skip (i := 25) rfl rfl rfl rfl rfl rfl rfl (by kernel_rfl) ?_
          refine RegD.skip (i := 26) rfl rfl rfl rfl rfl rfl rfl (by kernel_rfl) ?_
          refine RegD.skip (i := 27) rfl rfl rfl rfl rfl rfl rfl (by kernel_rfl) ?_
          refine RegD.skip (i := 28) rfl rfl rfl rfl rfl rfl rfl (by kernel_rfl) ?_
          refine RegD.skip (i := 29) rfl rfl rfl rfl rfl rfl rfl (by kernel_rfl) ?_
          refine RegD.skip (i := 30) rfl rfl rfl rfl rfl rfl rfl (by kernel_rfl) ?_
          refine RegD.skip (i := 31) rfl rfl rfl rfl rfl rfl rfl (by kernel_rfl) ?_
          refine RegD.skip (i := 32) rfl rfl rfl rfl rfl rfl rfl (by kernel_rfl) ?_
          refine RegD.skip (i := 33) rfl rfl rfl rfl rfl rfl rfl (by kernel_rfl) ?_
          refine RegD.skip (i := 34) rfl rfl rfl rfl rfl rfl rfl (by kernel_rfl) ?_
          refine RegD.skip (i := 35) rfl rfl rfl rfl rfl rfl rfl (by kernel_rfl) ?_
          refine RegD.tpur (i := 36) rfl rfl rfl rfl (by kernel_rfl) (Pur.pickT rfl rfl) ?_
          refine RegD.tpur (i := 37) rfl rfl rfl rfl (by kernel_rfl) (Pur.mv rfl) ?_
          refine RegD.skip (i := 38) rfl rfl rfl rfl rfl rfl rfl (by kernel_rfl) ?_
          refine RegD.skip (i := 39) rfl rfl rfl rfl rfl rfl rfl (by kernel_rfl) ?_
          refine RegD.skip (i := 40) rfl rfl rfl rfl rfl rfl rfl (by kernel_rfl) ?_
          refine RegD.skip (i := 41) rfl rfl rfl rfl rfl rfl rfl (by kernel_rfl) ?_
          refine RegD.skip (i := 42) rfl rfl rfl rfl rfl rfl rfl (by kernel_rfl) ?_
          refine RegD.skip (i := 43) rfl rfl rfl rfl rfl rfl rfl (by kernel_rfl) ?_
          refine RegD.skip (i := 44) rfl rfl rfl rfl rfl rfl rfl (by kernel_rfl) ?_
          refine RegD.skip (i := 45) rfl rfl rfl rfl rfl rfl rfl (by kernel_rfl) ?_
          refine RegD.skip (i := 46) rfl rfl rfl rfl rfl rfl rfl (by kernel_rfl) ?_
          refine RegD.skip (i := 47) rfl rfl rfl rfl rfl rfl rfl (by kernel_rfl) ?_
          refine RegD.skip (i := 48) rfl rfl rfl rfl rfl rfl rfl (by kernel_rfl) ?_
          refine RegD.skip (i := 49) rfl rfl rfl rfl rfl rfl rfl (by kernel_rfl) ?_
          refine RegD.tpur (i := 50) rfl rfl rfl rfl (by kernel_rfl) (Pur.pickT rfl rfl) ?_
          refine RegD.done (by kernel_rfl) ?_
          refine At.condT rfl rfl rfl ?_
          refine At.region rfl rfl ?_
          refine Reg.pur rfl rfl rfl rfl (Pur.asg rfl) ?_
          refine Reg.nil ?_
          refine At.ret rfl Try.func27 rfl ?_
          refine ⟨congrArg Value.bool (decide_eq_false (hne ?_)).symm, hE⟩
          intro e
          simp only [pl, Prod.mk.injEq] at e
          obtain ⟨e1, e2, e3, e4⟩ := e
          first | exact q28 e1 | (rw [e2] at q41; simp at q41; done) | (rw [hq, e4] at q54; simp at q54; done) | exact q67 e3
        · first | (simp only [decide_eq_true_eq, decide_eq_false_iff_not, Bool.not_eq_true', Bool.not_eq_false', ne_eq, Decidable.not_not, Bool.not_eq_true, Bool.not_eq_false] at q41) | (dsimp only at q41) | skip
          refine RegD.gtpur (i := 25) rfl rfl rfl rfl rfl rfl (by kernel_rfl) (Pur.mv rfl) ?_
          refine RegD.gtpur (i := 26) rfl rfl rfl rfl rfl rfl (by kernel_rfl) (Pur.mv rfl) ?_
          refine RegD.gtpur (i := 27) rfl rfl rfl rfl rfl rfl (by kernel_rfl) (Pur.idx _ es22 rfl rfl (by omega) (by omega)) ?_
          refine RegD.gtpur (i := 28) rfl rfl rfl rfl rfl rfl (by kernel_rfl) (Pur.fld _ fo49_3 rfl) ?_
          refine RegD.gtake (i := 29) rfl rfl rfl rfl rfl rfl (by kernel_rfl) (Bks.cons hB0.blk (Bks.cons hB0'.blk Bks.nil)) (fun H hS => Lod.ldn ag28 rfl hS.hd (show _ = Is bd.row by rw [← List.drop_drop]; exact (take_mid hd (by decide)).trans (List.take_of_length_le (by simp [hr]))) (by simp [hr])) ?_
          refine RegD.gtpur (i := 30) rfl rfl rfl rfl rfl rfl (by kernel_rfl) (Pur.mv rfl) ?_
          refine RegD.gtpur (i := 31) rfl rfl rfl rfl rfl rfl (by kernel_rfl) (Pur.mv rfl) ?_
          refine RegD.gtpur (i := 32) rfl rfl rfl rfl rfl rfl (by kernel_rfl) (Pur.idx _ es22 rfl rfl (by omega) (by omega)) ?_
          refine RegD.gtpur (i := 33) rfl rfl rfl rfl rfl rfl (by kernel_rfl) (Pur.fld _ fo49_3 rfl) ?_
          refine RegD.gtake (i := 34) rfl rfl rfl rfl rfl rfl (by kernel_rfl) (Bks.cons hB0.blk (Bks.cons hB0'.blk Bks.nil)) (fun H hS => Lod.ldn ag28 rfl hS.tl.hd (show _ = Is bd'.row by rw [← List.drop_drop]; exact (take_mid hd' (by decide)).trans (List.take_of_length_le (by simp [hr']))) (by simp [hr'])) ?_
          refine RegD.gtpur (i := 35) rfl rfl rfl rfl rfl rfl (by kernel_rfl) (Pur.neA eqt28 rfl rfl hf hf') ?_
          refine RegD.tpur (i := 36) rfl rfl rfl rfl (by kernel_rfl) (Pur.pickF rfl rfl) ?_
          refine RegD.tpur (i := 37) rfl rfl rfl rfl (by kernel_rfl) (Pur.mv rfl) ?_
          refine RegD.case 54 rfl (fun q54 => ?_) (fun q54 => ?_)
          · first | (simp only [decide_eq_true_eq, decide_eq_false_iff_not, Bool.not_eq_true', Bool.not_eq_false', ne_eq, Decidable.not_not, Bool.not_eq_true, Bool.not_eq_false] at q54) | (dsimp only at q54) | skip
            refine RegD.skip (i := 38) rfl rfl rfl rfl rfl rfl rfl (by kernel_rfl) ?_
            refine RegD.skip (i := 39) rfl rfl rfl rfl rfl rfl rfl (by kernel_rfl) ?_
            refine RegD.skip (i := 40) rfl rfl rfl rfl rfl rfl rfl (by kernel_rfl) ?_
            refine RegD.skip (i := 41) rfl rfl rfl rfl rfl rfl rfl (by kernel_rfl) ?_
            refine RegD.skip (i := 42) rfl rfl rfl rfl rfl rfl rfl (by kernel_rfl) ?_
            refine RegD.skip (i := 43) rfl rfl rfl rfl rfl rfl rfl (by kernel_rfl) ?_
            refine RegD.skip (i := 44) rfl rfl rfl rfl rfl rfl rfl (by kernel_rfl) ?_
            refine RegD.skip (i := 45) rfl rfl rfl rfl rfl rfl rfl (by kernel_rfl) ?_
            refine RegD.skip (i := 46) rfl rfl rfl rfl rfl rfl rfl (by kernel_rfl) ?_
            refine RegD.skip (i := 47) rfl rfl rfl rfl rfl rfl rfl (by kernel_rfl) ?_
            refine RegD.skip (i := 48) rfl rfl rfl rfl rfl rfl rfl (by kernel_rfl) ?_
            refine RegD.skip (i := 49) rfl rfl rfl rfl rfl rfl rfl (by kernel_rfl) ?_
            refine RegD.tpur (i := 50) rfl rfl rfl rfl (by kernel_rfl) (Pur.pickT rfl rfl) ?_
            refine RegD.done (by kernel_rfl) ?_
            refine At.condT rfl rfl rfl ?_
            refine At.region rfl rfl ?_
            refine Reg.pur rfl rfl rfl rfl (Pur.asg rfl) ?_
            refine Reg.nil ?_
            refine At.ret rfl Try.func27 rfl ?_
            refine ⟨congrArg Value.bool (decide_eq_false (hne ?_)).symm, hE⟩
            intro e
            simp only [pl, Prod.mk.injEq] at e
            obtain ⟨e1, e2, e3, e4⟩ := e
            first | exact q28 e1 | (rw [e2] at q41; simp at q41; done) | (rw [hq, e4] at q54; simp at q54; done) | exact q67 e3
          · first | (simp only [decide_eq_true_eq, decide_eq_false_iff_not, Bool.not_eq_true', Bool.not_eq_false', ne_eq, Decidable.not_not, Bool.not_eq_true, Bool.not_eq_false] at q54) | (dsimp only at q54) | skip
            refine RegD.gtpur (i := 38) rfl rfl rfl rfl rfl rfl (by kernel_rfl) (Pur.mv rfl) ?_
            refine RegD.gtpur (i := 39) rfl rfl rfl rfl rfl rfl (by kernel_rfl) (Pur.mv rfl) ?_
            refine RegD.gtpur (i := 40) rfl rfl rfl rfl rfl rfl (by kernel_rfl) (Pur.idx _ es22 rfl rfl (by omega) (by omega)) ?_
            refine RegD.gtpur (i := 41) rfl rfl rfl rfl rfl rfl (by kernel_rfl) (Pur.fld _ fo49_2 rfl) ?_
            refine RegD.gtake (i := 42) rfl rfl rfl rfl rfl rfl (by kernel_rfl) (Bks.cons hB0.blk (Bks.cons hB0'.blk Bks.nil)) (fun H hS => Lod.ldn ag25 rfl hS.hd (show _ = [bd.sl] by rw [← List.drop_drop]; exact (take_mid hd (by decide)).trans rfl) rfl) ?_
            refine RegD.gtpur (i := 43) rfl rfl rfl rfl rfl rfl (by kernel_rfl) (Pur.mv rfl) ?_
            refine RegD.gtpur (i := 44) rfl rfl rfl rfl rfl rfl (by kernel_rfl) (Pur.mv rfl) ?_
            refine RegD.gtpur (i := 45) rfl rfl rfl rfl rfl rfl (by kernel_rfl) (Pur.idx _ es22 rfl rfl (by omega) (by omega)) ?_
            refine RegD.gtpur (i := 46) rfl rfl rfl rfl rfl rfl (by kernel_rfl) (Pur.fld _ fo49_2 rfl) ?_
            refine RegD.gtake (i := 47) rfl rfl rfl rfl rfl rfl (by kernel_rfl) (Bks.cons hB0.blk (Bks.cons hB0'.blk Bks.nil)) (fun H hS => Lod.ldn ag25 rfl hS.tl.hd (show _ = [bd'.sl] by rw [← List.drop_drop]; exact (take_mid hd' (by decide)).trans rfl) rfl) ?_
            refine RegD.gone (i := 48) (by kernel_rfl) rfl rfl rfl rfl rfl rfl (Does.call rfl (sameType_ok hok.nine hok'.nine (hok.sl.ext hE) (hok'.sl.ext hE) hok.max)) ?_
            rintro _ H6_48 ⟨rfl, hE6_48⟩
            have z6_48 := hE6_48.lt
            replace hE := hE.ext hE6_48
            replace hB0 := hB0.ext hE6_48
            replace hB0' := hB0'.ext hE6_48
            refine ⟨fun _ _ => (Bks.cons hB0.blk (Bks.cons hB0'.blk Bks.nil)), ?_⟩
            refine RegD.gtpur (i := 49) rfl rfl rfl rfl rfl rfl (by kernel_rfl) (Pur.not rfl) ?_
            refine RegD.tpur (i := 50) rfl rfl rfl rfl (by kernel_rfl) (Pur.pickF rfl rfl) ?_
            refine RegD.done (by kernel_rfl) ?_
            refine At.cond rfl rfl (fun q67 => ?_) (fun q67 => ?_)
            · first | (simp only [decide_eq_true_eq, decide_eq_false_iff_not, Bool.not_eq_true', Bool.not_eq_false', ne_eq, Decidable.not_not, Bool.not_eq_true, Bool.not_eq_false] at q67) | (dsimp only at q67) | skip
              refine At.region rfl rfl ?_
              refine Reg.pur rfl rfl rfl rfl (Pur.asg rfl) ?_
              refine Reg.nil ?_
              refine At.ret rfl Try.func27 rfl ?_
              refine ⟨congrArg Value.bool (decide_eq_false (hne ?_)).symm, hE⟩
              intro e
              simp only [pl, Prod.mk.injEq] at e
              obtain ⟨e1, e2, e3, e4⟩ := e
              first | exact q28 e1 | (rw [e2] at q41; simp at q41; done) | (rw [hq, e4] at q54; simp at q54; done) | exact q67 e3
            · first | (simp only [decide_eq_true_eq, decide_eq_false_iff_not, Bool.not_eq_true', Bool.not_eq_false', ne_eq, Decidable.not_not, Bool.not_eq_true, Bool.not_eq_false] at q67) | (dsimp only at q67) | skip
              refine At.region rfl rfl ?_
              refine Reg.pur rfl rfl rfl rfl (Pur.mv rfl) ?_
              first | refine Reg.pur rfl rfl rfl rfl (Pur.add64 rfl rfl (by omega)) ?_ | refine Reg.pur rfl rfl rfl rfl (Pur.add64 rfl rfl (by assumption)) ?_ | refine Reg.pur rfl rfl rfl rfl (Pur.add rfl rfl) ?_
              refine Reg.pur rfl rfl rfl rfl (Pur.asg rfl) ?_
              refine Reg.nil ?_
              rw [hq] at q54
              refine At.via (ih (i + 1) _ ⟨by omega, hgo ?_, hE⟩ (by omega)) ⟨rfl, rfl, rfl, trivial⟩
              simp only [pl, Prod.mk.injEq]
              exact ⟨q28, by simpa using q41, q67, by simpa using q54⟩
    · first | (simp only [decide_eq_true_eq, decide_eq_false_iff_not, Bool.not_eq_true', Bool.not_eq_false', ne_eq, Decidable.not_not, Bool.not_eq_true, Bool.not_eq_false] at q14) | (dsimp only at q14) | skip
      refine At.region rfl rfl ?_
      refine Reg.pur rfl rfl rfl rfl (Pur.asg rfl) ?_
      refine Reg.nil ?_
      refine At.ret rfl Try.func27 rfl ?_
      rw [List.take_of_length_le (by omega), List.take_of_length_le (by omega)] at hmap
      exact ⟨congrArg Value.bool (decide_eq_true hmap).symm, hE⟩
end Go.Proofs.Ytlfillhffpiffaa
