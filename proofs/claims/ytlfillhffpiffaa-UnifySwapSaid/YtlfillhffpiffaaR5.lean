/-
  Parts of the proof, 5.
-/
import Derived.Test.YtlfillhffpiffaaR4
namespace Go.Proofs.Ytlfillhffpiffaa
set_option linter.unusedSimpArgs false
set_option linter.unusedVariables false
set_option maxRecDepth 8000
set_option maxHeartbeats 800000
open Go Go.Fx Go.Proofs
namespace FactsUniI
theorem ag25 : ag Try.prog 25 = some 1 := by kernel_rfl
theorem ag28 : ag Try.prog 28 = some 5 := by kernel_rfl
theorem ag49 : ag Try.prog 49 = some 8 := by kernel_rfl
theorem apt22 : appT Try.prog 22 = some (49, 8, 80) := by kernel_rfl
theorem es22 : esz Try.prog 22 = some 8 := by kernel_rfl
theorem fo122_0 : foff Try.prog 122 0 = some 0 := by kernel_rfl
theorem fo49_1 : foff Try.prog 49 1 = some 1 := by kernel_rfl
theorem fo49_2 : foff Try.prog 49 2 = some 2 := by kernel_rfl
theorem fo49_3 : foff Try.prog 49 3 = some 3 := by kernel_rfl
theorem isl22 : isSl Try.prog 22 = true := by kernel_rfl
theorem mixed : Try.prog.follows .mixedOrders = true := by kernel_rfl
theorem pl166 : places Try.prog 166 = some [(0, 1), (1, 1)] := by kernel_rfl
theorem sc22 : sc Try.prog 22 = true := by kernel_rfl
theorem sc4 : sc Try.prog 4 = true := by kernel_rfl
theorem slA22 : slA Try.prog 22 = some (49, 8) := by kernel_rfl
theorem zc166 : zc Try.prog 166 = some [.string ⟨#[]⟩, .nilIface] := by kernel_rfl
end FactsUniI
open FactsUniI

def AddP (H : Heap) (lo sb : Nat) (A : Option Addr) (f : Int) (o : Option (List Bt)) (v : Value) (H' : Heap) : Prop :=
  match o with
  | some Ts' => v = .nilIface ∧ ∃ A' cap' Bs', Slv H' lo sb A' cap' Bs' Ts' ∧ Own H' sb [.slice A' Bs'.length cap', I f] ∧ Md sb A A' H H'
  | none => PrtV H' v 1003 ∧ But (fun g => lo ≤ g) H H'
structure Bes (H : Heap) (lo sb : Nat) (A : Option Addr) (Bs : List Bd) (bd : Bd) (b : Bt) : Prop where
  pl : pl bd = b.pl
  tok : b.ok
  ok : bd.Ok H
  wr : Gw H lo 9 bd.A bd.cap bd.nodes.length (bd.nodes.flatMap Is)
  off : bd.nodes.length = 0 ∨ (ob bd.A ≠ ob A ∧ ob bd.A ≠ sb)
  dis : ∀ x ∈ Bs, bd.nodes.length = 0 ∨ x.nodes.length = 0 ∨ ob bd.A ≠ ob x.A
theorem row_rd {α : Type} {enc : α → List Value} {n : Nat} {L : List α} (hL : Wide enc n L) {i : Nat} (hi : i < L.length) {c : List Value} (hc : c.take (L.length * n) = L.flatMap enc) : (c.drop (i * n)).take n = enc L[i] := by
  obtain ⟨p, q, h1, h2, _⟩ := flat_at hL hi
  have hl := hL _ (List.getElem_mem hi)
  have hd : c = p ++ (enc L[i] ++ (q ++ c.drop (L.length * n))) := by
    rw [← List.append_assoc, ← List.append_assoc, ← h1, ← hc, List.take_append_drop]
  rw [hd, ← h2, List.drop_left]
  rw [← hl, List.take_left]
theorem bds_own1 {H : Heap} {bd : Bd} {g : Nat} (hok : bd.Ok H) (hn : Own H g ([bd].flatMap encB)) : Bds H (.slice (some ⟨g, 0, none⟩) [bd].length 1) [bd] :=
  ⟨sl_own (fun x hx => by rw [List.mem_singleton.1 hx]; exact hok.len) (by decide) hn (by simp), fun x hx => by rw [List.mem_singleton.1 hx]; exact hok, by simp⟩
theorem Bes.ext {H H' : Heap} {lo sb : Nat} {A : Option Addr} {Bs : List Bd} {bd : Bd} {b : Bt} (h : Bes H lo sb A Bs bd b) (he : Ext H H') : Bes H' lo sb A Bs bd b :=
  ⟨h.pl, h.tok, h.ok.ext he, h.wr.ext he, h.off, h.dis⟩
theorem pl_at {Bs : List Bd} {Ts : List Bt} (h : Bs.map pl = Ts.map Bt.pl) {i : Nat} (hi : i < Bs.length) (hj : i < Ts.length) : pl Bs[i] = Ts[i].pl := by
  have := congrArg (fun l => l[i]?) h
  simpa [List.getElem?_map, List.getElem?_eq_getElem hi, List.getElem?_eq_getElem hj] using this
theorem addB_step {b : Bt} {Ts Ts' : List Bt} {i : Nat} (hj : i < Ts'.length) (h : addB b Ts = (addB b (Ts'.drop i)).map (Ts'.take i ++ ·)) : (sub1 b Ts'[i] = none → addB b Ts = none) ∧ ∀ c, sub1 b Ts'[i] = some c → addB b Ts = (addB b ((Ts'.set i c).drop (i + 1))).map ((Ts'.set i c).take (i + 1) ++ ·) := by
  rw [List.drop_eq_getElem_cons hj] at h
  constructor
  · intro hn
    rw [h]; simp only [addB, hn]; rfl
  · intro c hc
    rw [h, List.drop_set_of_lt (by omega)]
    have e1 : (Ts'.set i c).take (i + 1) = Ts'.take i ++ [c] := by
      rw [List.take_succ_eq_append_getElem (by rw [List.length_set]; exact hj), List.take_set_of_le (by omega), List.getElem_set_self]
    rw [e1]
    simp only [addB, hc]
    cases addB b (Ts'.drop (i + 1)) with
    | none => rfl
    | some l => simp
theorem row_ld {c : List Value} {x : Bd} {i : Nat} (hd : (c.drop (i * 8)).take 8 = encB x) (hr : x.row.length = 5) : (c.drop (0 + (i : Int).toNat * 8 + 3)).take 5 = Is x.row := by
  rw [Int.toNat_natCast, Nat.zero_add, ← List.drop_drop, take_mid hd (by decide)]
  simp [encB, Is]
  rw [List.take_of_length_le (by simp [hr])]
theorem Slv.app {H H' : Heap} {lo sb cap cap' : Nat} {A A' : Option Addr} {Bs : List Bd} {Ts : List Bt} {bd : Bd} {b : Bt} (h : Slv H lo sb A cap Bs Ts) (hb : Bes H lo sb A Bs bd b) (hg : Gs H' lo 49 8 A' cap' (Bs ++ [bd]).length ((Bs ++ [bd]).flatMap encB)) (he : But (fun g => g = sb ∨ (g : Int) = ob A) H H') (hA : ob A' = ob A ∨ (H.size : Int) ≤ ob A') (hl : Bs.length < 100000) (hsb : sb < H.size) : Slv H' lo sb A' cap' (Bs ++ [bd]) (Ts ++ [b]) := by
  have hmem : ∀ x ∈ Bs ++ [bd], x ∈ Bs ∨ x = bd := fun x hx => by simpa using hx
  have hd := h.d
  have hlo := h.lo
  have k : ∀ x ∈ Bs ++ [bd], x.Ok H ∧ Gw H lo 9 x.A x.cap x.nodes.length (x.nodes.flatMap Is) ∧ (x.nodes.length = 0 ∨ (ob x.A ≠ ob A ∧ ob x.A ≠ sb)) := fun x hx => by
    rcases hmem x hx with hx | rfl
    · exact ⟨h.ok x hx, h.wr x hx, h.off x hx⟩
    · exact ⟨hb.ok, hb.wr, hb.off⟩
  refine ⟨hg, fun x hx => ?_, fun x hx => ?_, fun x hx => ?_, ?_, ?_, ?_, by omega, h.lo, by rw [List.length_append, List.length_singleton]; omega⟩
  · obtain ⟨k1, k2, k3⟩ := k x hx
    exact k1.via he (fun h0 g hg hh => by omega)
  · obtain ⟨k1, k2, k3⟩ := k x hx
    exact k2.via he (fun h0 g hg hh => by omega)
  · obtain ⟨k1, k2, k3⟩ := k x hx
    have := k1.lt
    omega
  · intro i j hi hj hij
    rw [List.length_append, List.length_singleton] at hi hj
    by_cases h1 : i < Bs.length
    · by_cases h2 : j < Bs.length
      · rw [List.getElem_append_left h1, List.getElem_append_left h2]; exact h.dis i j h1 h2 hij
      · have : j = Bs.length := by omega
        subst this
        rw [List.getElem_append_left h1]
        simp only [List.getElem_concat_length]
        rcases hb.dis _ (List.getElem_mem h1) with e | e | e
        · exact .inr (.inl e)
        · exact .inl e
        · exact .inr (.inr (fun q => e q.symm))
    · have : i = Bs.length := by omega
      subst this
      have h2 : j < Bs.length := by omega
      rw [List.getElem_append_left h2]
      simp only [List.getElem_concat_length]
      exact hb.dis _ (List.getElem_mem h2)
  · rw [List.map_append, List.map_append, h.pl]; simp [hb.pl]
  · intro x hx
    rcases List.mem_append.1 hx with hx | hx
    · exact h.tok x hx
    · rw [List.mem_singleton.1 hx]; exact hb.tok
theorem Md.lt {sb : Nat} {A A' : Option Addr} {H H' : Heap} (h : Md sb A A' H H') : H.size ≤ H'.size := h.1.1
theorem Bes.lt {H : Heap} {lo sb : Nat} {A : Option Addr} {Bs : List Bd} {bd : Bd} {b : Bt} (h : Bes H lo sb A Bs bd b) : bd.nodes.length = 0 ∨ (0 ≤ ob bd.A ∧ ob bd.A < H.size) := h.ok.lt
theorem Bes.set {H H' : Heap} {lo sb g : Nat} {Bs : List Bd} {bd : Bd} {b : Bt} (h : Bes H lo sb (some ⟨g, 0, none⟩) Bs bd b) {c : List Value} (hu : Upd H H' g c) {i : Nat} {x : Bd} (hx : bd.nodes.length = 0 ∨ x.nodes.length = 0 ∨ ob bd.A ≠ ob x.A) : Bes H' lo sb (some ⟨g, 0, none⟩) (Bs.set i x) bd b := by
  have ho := h.off
  rw [ob_some] at ho
  refine ⟨h.pl, h.tok, h.ok.upw hu (by omega), h.wr.upw hu (by omega), h.off, fun y hy => ?_⟩
  rcases List.mem_or_eq_of_mem_set hy with hy | rfl
  · exact h.dis y hy
  · exact hx
theorem Md.set {H H1 H2 : Heap} {sb g : Nat} {c : List Value} (h : Md sb (some ⟨g, 0, none⟩) (some ⟨g, 0, none⟩) H H1) (hu : Upd H1 H2 g c) : Md sb (some ⟨g, 0, none⟩) (some ⟨g, 0, none⟩) H H2 :=
  ⟨h.1.trans (hu.but.mono (fun b hb e => Or.inr (by rw [e]; rfl))), .inl rfl⟩
theorem sp_row {x : Bd} {s : List Int} (hx : x.row.length = 5) (hs : s.length = 5) : splice (encB x) 3 (Is s) = encB { x with row := s } := by
  unfold splice
  simp [encB, Is, hx, hs]
theorem sp_ty {x : Bd} {A : Option Addr} {cap : Nat} {L : List (List Int)} : splice (encB x) 2 [.slice A L.length cap] = encB { x with A := A, cap := cap, nodes := L } := by
  unfold splice
  simp [encB, Is]
theorem cat_splice {c vs : List Value} {i j m : Nat} (h : vs.length = m) : c.take (0 + (i : Int).toNat * 8 + j) ++ vs ++ c.drop (0 + (i : Int).toNat * 8 + j + m) = splice c (i * 8 + j) vs := by
  subst h; rw [Int.toNat_natCast, Nat.zero_add]; rfl
theorem add_ok {H : Heap} {lo sb cap : Nat} {A : Option Addr} {Bs : List Bd} {Ts : List Bt} {f : Int} (h : Slv H lo sb A cap Bs Ts) (hs : Own H sb [.slice A Bs.length cap, I f]) {bd : Bd} {b : Bt} (hb : Bes H lo sb A Bs bd b) (hl : Bs.length < 100000) :
    Ret Try.prog 129 [ptr sb 0, .agg (encB bd).toArray] H (AddP H lo sb A f (addB b Ts)) := by
  have h8 : (encB bd).length = 8 := hb.ok.len
  refine Ret.of_at (N := 69) Try.call129 Try.func129 rfl rfl rfl ?_
  have hE := Ext.refl H
  have z_hE := hE.lt
  have z_hs := hs.lt
  refine At.region rfl rfl ?_
  refine Reg.op rfl rfl rfl rfl (Does.box rfl rfl) ?_
  rintro _ H0_0 ⟨rfl, hn0_0⟩
  have z0_0 := hn0_0.size
  replace hE := hE.ext hn0_0.ext
  replace hs := hs.ext hn0_0.ext
  have o0_0 := hn0_0.own
  refine Reg.pur rfl rfl rfl rfl (Pur.asg rfl) ?_
  refine Reg.nil ?_
  refine At.region rfl rfl ?_
  refine Reg.lod rfl rfl rfl rfl (Lod.ldn ag49 rfl o0_0.blk (whole h8) h8) ?_
  refine Reg.op rfl rfl rfl rfl (Does.bslA ([encB bd]) slA22 rfl rfl rfl (by simp [h8]) rfl rfl) ?_
  rintro _ H1_1 ⟨rfl, hp1_1⟩
  have hn1_1 := New.of_eq hp1_1
  have z1_1 := hn1_1.size
  replace hE := hE.ext hn1_1.ext
  replace hs := hs.ext hn1_1.ext
  replace o0_0 := o0_0.ext hn1_1.ext
  have o1_1 := hn1_1.own
  refine Reg.pur rfl rfl rfl rfl (Pur.asg rfl) ?_
  refine Reg.nil ?_
  refine At.region rfl rfl ?_
  refine Reg.pur rfl rfl rfl rfl (Pur.mv rfl) ?_
  refine Reg.pur rfl rfl rfl rfl (Pur.nilc rfl) ?_
  refine Reg.pur rfl rfl rfl rfl (Pur.fld _ fo122_0 rfl) ?_
  refine Reg.lod rfl rfl rfl rfl (Lod.ld sc22 rfl hs.blk rfl) ?_
  refine Reg.pur rfl rfl rfl rfl (Pur.lenS isl22 rfl) ?_
  refine Reg.pur rfl rfl rfl rfl (Pur.mv rfl) ?_
  refine Reg.nil ?_
  refine At.loop (σ := Nat × List Bd × List Bt) (fun (i, Bs', Ts') => [(16, I i), (15, I Bs.length), (5, .slice (some ⟨H0_0.size, 0, none⟩) 1 1), (0, ptr sb 0), (3, ptr H.size 0)]) (fun (i, Bs', Ts') H' => i ≤ Bs.length ∧ Bs'.length = Bs.length ∧ Slv H' lo sb A cap Bs' Ts' ∧ addB b Ts = (addB b (Ts'.drop i)).map (Ts'.take i ++ ·) ∧ Own H' sb [.slice A Bs'.length cap, I f] ∧ Own H' H.size (encB bd) ∧ Own H' H0_0.size ([bd].flatMap encB) ∧ Bes H' lo sb A Bs' bd b ∧ Md sb A A H H') (fun (i, Bs', Ts') => Bs.length - i) (0, Bs, Ts) rfl ⟨rfl, rfl, rfl, rfl, rfl, trivial⟩ ⟨by omega, rfl, h.ext hE, by simp, hs, o0_0, o1_1, hb.ext hE, (Md.refl _ _ _).ext hE⟩ ?_
  have hlt0 := hn0_0.size
  have hsb0 := z_hs
  have hA0 := h.lt.1
  clear h hb hs o0_0 o1_1 hE
  rintro ⟨i, Bs', Ts'⟩ H3 ⟨hi, hll, hSl, hadd, hs, o0_0, o1_1, hBe, hM⟩ ih
  dsimp only at hi hll hSl hadd hs hBe ⊢
  have z_hs := hs.lt
  have z_o0_0 := o0_0.lt
  have z_o1_1 := o1_1.lt
  have z_hSl := hSl.lt
  have z_hBe := hBe.lt
  have z_hM := hM.lt
  refine At.region rfl rfl ?_
  refine Reg.pur rfl rfl rfl rfl (Pur.lss rfl rfl) ?_
  refine Reg.nil ?_
  refine At.cond rfl rfl (fun q17 => ?_) (fun q17 => ?_)
  · first | (simp only [decide_eq_true_eq, decide_eq_false_iff_not, Bool.not_eq_true', Bool.not_eq_false', ne_eq, Decidable.not_not, Bool.not_eq_true, Bool.not_eq_false] at q17) | (dsimp only at q17) | skip
    have hi' : i < Bs'.length := by omega
    have hj' : i < Ts'.length := by rw [hSl.lenT]; exact hi'
    obtain ⟨hstn, hsts⟩ := addB_step hj' hadd
    have hpi := pl_at hSl.pl hi' hj'
    have htk := hSl.tok _ (List.getElem_mem hj')
    have hoki := hSl.ok _ (List.getElem_mem hi')
    obtain ⟨g, c, rfl, hT, hc, hcl, hcap, hlg⟩ := hSl.blk (by omega)
    have hgsb : (g : Int) ≠ sb := hSl.d
    rw [ob_some] at hA0
    have hSl3 := hSl
    have hBe3 := hBe.ok.lt
    have hd := row_rd hSl.wide hi' hc
    have hat : ∀ j, j < 8 → ∀ v, (encB Bs'[i])[j]? = some v → c[0 + (i : Int).toNat * 8 + j]? = some v := by intro j hj v hv; rw [Int.toNat_natCast, Nat.zero_add]; exact at_tk hd hj hv
    have z_hT := hT.lt
    refine At.region rfl rfl ?_
    refine Reg.pur rfl rfl rfl rfl (Pur.mv rfl) ?_
    refine Reg.pur rfl rfl rfl rfl (Pur.asg rfl) ?_
    refine Reg.nil ?_
    refine At.region rfl rfl ?_
    refine Reg.pur rfl rfl rfl rfl (Pur.mv rfl) ?_
    refine Reg.pur rfl rfl rfl rfl (Pur.nilc rfl) ?_
    refine Reg.pur rfl rfl rfl rfl (Pur.fld _ fo122_0 rfl) ?_
    refine Reg.lod rfl rfl rfl rfl (Lod.ld sc22 rfl hs.blk rfl) ?_
    refine Reg.pur rfl rfl rfl rfl (Pur.mv rfl) ?_
    refine Reg.pur rfl rfl rfl rfl (Pur.idx _ es22 rfl rfl (by omega) (by omega)) ?_
    refine Reg.pur rfl rfl rfl rfl (Pur.asg rfl) ?_
    refine Reg.nil ?_
    refine At.region rfl rfl ?_
    refine Reg.pur rfl rfl rfl rfl (Pur.asg rfl) ?_
    refine Reg.nil ?_
    refine At.region rfl rfl ?_
    refine Reg.pur rfl rfl rfl rfl (Pur.mv rfl) ?_
    refine Reg.pur rfl rfl rfl rfl (Pur.nilc rfl) ?_
    refine Reg.pur rfl rfl rfl rfl (Pur.fld _ fo49_1 rfl) ?_
    refine Reg.lod rfl rfl rfl rfl (Lod.ld sc4 rfl hT.blk (hat 1 (by omega) _ rfl)) ?_
    refine Reg.nil ?_
    refine At.cond rfl rfl (fun q28 => ?_) (fun q28 => ?_)
    · first | (simp only [decide_eq_true_eq, decide_eq_false_iff_not, Bool.not_eq_true', Bool.not_eq_false', ne_eq, Decidable.not_not, Bool.not_eq_true, Bool.not_eq_false] at q28) | (dsimp only at q28) | skip
      have hno : ∃ v s, Ts'[i] = .r v s := by { generalize Ts'[i] = x at hpi; cases x with | r v s => exact ⟨v, s, rfl⟩ | t v u => exact absurd ((congrArg (fun p ↦ p.2.1) hpi).symm.trans q28) (by simp [Bt.pl]) }
      obtain ⟨v0, s0, hts⟩ := hno
      rw [hts] at hpi htk hstn hsts
      have hrow : Bs'[i].row = s0 := congrArg (fun p ↦ p.2.2.2) hpi
      have hnod : Bs'[i].nodes = [] := congrArg (fun p ↦ p.2.2.1) hpi
      have hvar : Bs'[i].var = v0 := congrArg (fun p ↦ p.1) hpi
      have hq : rowS [bd] Bs'[i].row = rwP (rwS [b] s0) := by { rw [hrow]; exact rowS_rw (by simp [hBe.pl]) s0 }
      refine At.region rfl rfl ?_
      refine Reg.pur rfl rfl rfl rfl (Pur.mv rfl) ?_
      refine Reg.pur rfl rfl rfl rfl (Pur.mv rfl) ?_
      refine Reg.pur rfl rfl rfl rfl (Pur.mv rfl) ?_
      refine Reg.pur rfl rfl rfl rfl (Pur.nilc rfl) ?_
      refine Reg.pur rfl rfl rfl rfl (Pur.fld _ fo49_3 rfl) ?_
      refine Reg.lod rfl rfl rfl rfl (Lod.ldn ag28 rfl hT.blk (row_ld hd hoki.row) (by simp [hoki.row])) ?_
      refine Reg.op rfl rfl rfl rfl (Does.call rfl (ofRow_ok (bds_own1 hBe.ok o1_1) Bs'[i].row hoki.row (by rw [hrow]; exact (rowM_t htk.2).1))) ?_
      rintro _ H8_6 ⟨rfl, hlen, hE8_6⟩
      have z8_6 := hE8_6.lt
      replace hs := hs.ext hE8_6
      replace o0_0 := o0_0.ext hE8_6
      replace o1_1 := o1_1.ext hE8_6
      replace hSl := hSl.ext hE8_6
      replace hBe := hBe.ext hE8_6
      replace hM := hM.ext hE8_6
      replace hT := hT.ext hE8_6
      rw [hq] at hlen
      try rw [hq]
      refine Reg.pur rfl rfl rfl rfl (Pur.mv rfl) ?_
      refine Reg.pur rfl rfl rfl rfl (Pur.ext rfl rfl) ?_
      refine Reg.pur rfl rfl rfl rfl (Pur.ext rfl rfl) ?_
      refine Reg.pur rfl rfl rfl rfl (Pur.nilc rfl) ?_
      refine Reg.pur rfl rfl rfl rfl (Pur.fld _ fo49_3 rfl) ?_

      refine Reg.op0 rfl rfl rfl (Does.stnT ag28 rfl rfl (ones_Is _) (by simp [hlen]) hT (by rw [hcl, Int.toNat_natCast]; omega)) ?_
      rintro _ H8_12 ⟨hu8_12, ht8_12⟩
      have z8_12 := hu8_12.size
      replace hs := hs.upw hu8_12 (by omega)
      replace o0_0 := o0_0.upw hu8_12 (by omega)
      replace o1_1 := o1_1.upw hu8_12 (by omega)
      replace hT := ht8_12
      refine Reg.pur rfl rfl rfl rfl (Pur.asg rfl) ?_
      refine Reg.nil ?_
      refine At.region rfl rfl ?_
      refine Reg.pur rfl rfl rfl rfl (Pur.mv rfl) ?_
      refine Reg.pur rfl rfl rfl rfl (Pur.not rfl) ?_
      refine Reg.nil ?_
      refine At.cond rfl rfl (fun q53 => ?_) (fun q53 => ?_)
      · first | (simp only [decide_eq_true_eq, decide_eq_false_iff_not, Bool.not_eq_true', Bool.not_eq_false', ne_eq, Decidable.not_not, Bool.not_eq_true, Bool.not_eq_false] at q53) | (dsimp only at q53) | skip
        refine At.region rfl rfl ?_
        refine Reg.pur rfl rfl rfl rfl (Pur.mki (by kernel_rfl) rfl) ?_
        refine Reg.pur rfl rfl rfl rfl (Pur.bld (cs := [_, _]) pl166 zc166 rfl rfl ⟨rfl, rfl, rfl⟩) ?_
        refine Reg.op rfl rfl rfl rfl (Does.box rfl rfl) ?_
        rintro _ H11_2 ⟨rfl, hn11_2⟩
        have z11_2 := hn11_2.size
        replace hs := hs.ext hn11_2.ext
        replace o0_0 := o0_0.ext hn11_2.ext
        replace o1_1 := o1_1.ext hn11_2.ext
        replace hT := hT.ext hn11_2.ext
        have o11_2 := hn11_2.own
        refine Reg.pur rfl rfl rfl rfl (Pur.mki (by kernel_rfl) rfl) ?_
        refine Reg.pur rfl rfl rfl rfl (Pur.asg rfl) ?_
        refine Reg.nil ?_
        refine At.ret rfl Try.func129 rfl ?_
        have hr0 : rwS [b] s0 = none := none_of ((rwP_snd _).symm.trans q53)
        rw [hstn (by simp [sub1, hr0])]
        exact ⟨⟨_, _, _, rfl, o11_2.blk, .inl rfl⟩, ((hM.low hSl.lo (by rw [ob_some]; omega)).trans (hu8_12.but.mono (fun b hb e => by rw [e]; exact hlg))).trans hn11_2.ext.but⟩
      first | (simp only [decide_eq_true_eq, decide_eq_false_iff_not, Bool.not_eq_true', Bool.not_eq_false', ne_eq, Decidable.not_not, Bool.not_eq_true, Bool.not_eq_false] at q53) | (dsimp only at q53) | skip
      refine At.region rfl rfl ?_
      first | refine Reg.pur rfl rfl rfl rfl (Pur.add64 rfl rfl (by omega)) ?_ | refine Reg.pur rfl rfl rfl rfl (Pur.add64 rfl rfl (by assumption)) ?_ | refine Reg.pur rfl rfl rfl rfl (Pur.add rfl rfl) ?_
      refine Reg.pur rfl rfl rfl rfl (Pur.mv rfl) ?_
      refine Reg.nil ?_
      obtain ⟨s1, hs1⟩ := some_of ((rwP_snd _).symm.trans q53)
      rw [hs1] at hlen hu8_12 hT
      have h5 : s1.length = 5 := hlen
      dsimp only [rwP] at hu8_12 hT
      rw [cat_splice (vs := Is s1) (m := 5) (by simp [h5])] at hu8_12 hT
      have hst := hsts (.r v0 s1) (by simp [sub1, hs1])
      have hok8 := hSl.ok _ (List.getElem_mem hi')
      have hset := hSl.set hi' (bd := { Bs'[i] with row := s1 }) (b := .r v0 s1) (by simp [pl, Bt.pl, hvar, hnod, q28]) (rw_ok (fun x hx => by rw [List.mem_singleton.1 hx]; exact hBe.tok) htk.1 htk.2 hs1) ⟨hok8.sl, hok8.nine, h5, hok8.fits⟩ (show Gw _ _ _ Bs'[i].A Bs'[i].cap Bs'[i].nodes.length (Bs'[i].nodes.flatMap Is) from hSl.wr _ (List.getElem_mem hi')) (.inl (by simp [hnod])) (fun j hj hij => .inl (by simp [hnod])) hc (by simp [h5]) (sp_row hok8.row h5) hcl hu8_12 hT
      exact At.via (ih (i + 1, Bs'.set i { Bs'[i] with row := s1 }, Ts'.set i (.r v0 s1)) _ ⟨by omega, by rw [List.length_set]; exact hll, hset, hst, by rw [List.length_set]; exact hs, o0_0, o1_1, hBe.set hu8_12 (.inr (.inl (by simp [hnod]))), hM.set hu8_12⟩ (by simp only; omega)) ⟨rfl, rfl, rfl, rfl, rfl, trivial⟩
    first | (simp only [decide_eq_true_eq, decide_eq_false_iff_not, Bool.not_eq_true', Bool.not_eq_false', ne_eq, Decidable.not_not, Bool.not_eq_true, Bool.not_eq_false] at q28) | (dsimp only at q28) | skip
    have hno : ∃ v u, Ts'[i] = .t v u := by { generalize Ts'[i] = x at hpi; cases x with | t v u => exact ⟨v, u, rfl⟩ | r v s => exact absurd ((congrArg (fun p ↦ p.2.1) hpi).symm.trans q28) (by simp [Bt.pl]) }
    obtain ⟨v0, u0, hts⟩ := hno
    rw [hts] at hpi htk hstn hsts
    have hrow : Bs'[i].row = noRow := congrArg (fun p ↦ p.2.2.2) hpi
    have hnod : Bs'[i].nodes = u0.enc 0 := congrArg (fun p ↦ p.2.2.1) hpi
    have hvar : Bs'[i].var = v0 := congrArg (fun p ↦ p.1) hpi
    have hq : typS [bd] Bs'[i].nodes = (tys [b] u0).map (·.enc 0) := by { rw [hnod]; exact typS_tys (by simp [hBe.pl]) (fun x hx ↦ by rw [List.mem_singleton.1 hx]; exact hBe.tok) u0 }
    refine At.region rfl rfl ?_
    refine Reg.pur rfl rfl rfl rfl (Pur.mv rfl) ?_
    refine Reg.pur rfl rfl rfl rfl (Pur.mv rfl) ?_
    refine Reg.pur rfl rfl rfl rfl (Pur.mv rfl) ?_
    refine Reg.pur rfl rfl rfl rfl (Pur.nilc rfl) ?_
    refine Reg.pur rfl rfl rfl rfl (Pur.fld _ fo49_2 rfl) ?_
    refine Reg.op rfl rfl rfl rfl (Does.call rfl (ofType_ok (bds_own1 hBe.ok o1_1) hoki.sl hoki.nine (by rw [hnod]; exact enc_typ htk.1 htk.2) hT.blk (hat 2 (by omega) _ rfl))) ?_
    rintro v9_5 H9_5 ⟨hE9_5, hT0⟩
    have z9_5 := hE9_5.lt
    replace hs := hs.ext hE9_5
    replace o0_0 := o0_0.ext hE9_5
    replace o1_1 := o1_1.ext hE9_5
    replace hSl := hSl.ext hE9_5
    replace hBe := hBe.ext hE9_5
    replace hM := hM.ext hE9_5
    replace hT := hT.ext hE9_5
    rw [hq] at hT0
    obtain ⟨w, rfl, hT1⟩ := TypB.o hT0
    obtain ⟨A2, c2, rfl, hG, hN, hl2⟩ := hT1
    have z_hG := hG.lt
    refine Reg.pur rfl rfl rfl rfl (Pur.mv rfl) ?_
    refine Reg.pur rfl rfl rfl rfl (Pur.ext rfl rfl) ?_
    refine Reg.pur rfl rfl rfl rfl (Pur.ext rfl rfl) ?_
    refine Reg.pur rfl rfl rfl rfl (Pur.nilc rfl) ?_
    refine Reg.pur rfl rfl rfl rfl (Pur.fld _ fo49_2 rfl) ?_

    have hG0 := hG
    refine Reg.op0 rfl rfl rfl (Does.stnT ag25 rfl rfl (by first | rfl | exact ones_Is _) (by first | rfl | (simp [*]; done)) hT (by rw [hcl, Int.toNat_natCast]; omega)) ?_
    rintro _ H9_11 ⟨hu9_11, ht9_11⟩
    have z9_11 := hu9_11.size
    replace hs := hs.upw hu9_11 (by omega)
    replace o0_0 := o0_0.upw hu9_11 (by omega)
    replace o1_1 := o1_1.upw hu9_11 (by omega)
    replace hG := hG.upw hu9_11 (by omega)
    replace hT := ht9_11
    refine Reg.pur rfl rfl rfl rfl (Pur.asg rfl) ?_
    refine Reg.nil ?_
    refine At.region rfl rfl ?_
    refine Reg.pur rfl rfl rfl rfl (Pur.mv rfl) ?_
    refine Reg.pur rfl rfl rfl rfl (Pur.not rfl) ?_
    refine Reg.nil ?_
    refine At.cond rfl rfl (fun q53 => ?_) (fun q53 => ?_)
    · first | (simp only [decide_eq_true_eq, decide_eq_false_iff_not, Bool.not_eq_true', Bool.not_eq_false', ne_eq, Decidable.not_not, Bool.not_eq_true, Bool.not_eq_false] at q53) | (dsimp only at q53) | skip
      refine At.region rfl rfl ?_
      refine Reg.pur rfl rfl rfl rfl (Pur.mki (by kernel_rfl) rfl) ?_
      refine Reg.pur rfl rfl rfl rfl (Pur.bld (cs := [_, _]) pl166 zc166 rfl rfl ⟨rfl, rfl, rfl⟩) ?_
      refine Reg.op rfl rfl rfl rfl (Does.box rfl rfl) ?_
      rintro _ H11_2 ⟨rfl, hn11_2⟩
      have z11_2 := hn11_2.size
      replace hs := hs.ext hn11_2.ext
      replace o0_0 := o0_0.ext hn11_2.ext
      replace o1_1 := o1_1.ext hn11_2.ext
      replace hT := hT.ext hn11_2.ext
      replace hG := hG.ext hn11_2.ext
      have o11_2 := hn11_2.own
      refine Reg.pur rfl rfl rfl rfl (Pur.mki (by kernel_rfl) rfl) ?_
      refine Reg.pur rfl rfl rfl rfl (Pur.asg rfl) ?_
      refine Reg.nil ?_
      refine At.ret rfl Try.func129 rfl ?_
      have hr0 : tys [b] u0 = none := none_of q53
      rw [hstn (by simp [sub1, hr0])]
      exact ⟨⟨_, _, _, rfl, o11_2.blk, .inl rfl⟩, ((hM.low hSl.lo (by rw [ob_some]; omega)).trans (hu9_11.but.mono (fun b hb e => by rw [e]; exact hlg))).trans hn11_2.ext.but⟩
    first | (simp only [decide_eq_true_eq, decide_eq_false_iff_not, Bool.not_eq_true', Bool.not_eq_false', ne_eq, Decidable.not_not, Bool.not_eq_true, Bool.not_eq_false] at q53) | (dsimp only at q53) | skip
    refine At.region rfl rfl ?_
    first | refine Reg.pur rfl rfl rfl rfl (Pur.add64 rfl rfl (by omega)) ?_ | refine Reg.pur rfl rfl rfl rfl (Pur.add64 rfl rfl (by assumption)) ?_ | refine Reg.pur rfl rfl rfl rfl (Pur.add rfl rfl) ?_
    refine Reg.pur rfl rfl rfl rfl (Pur.mv rfl) ?_
    refine Reg.nil ?_
    obtain ⟨u1, hu1⟩ := some_of q53
    rw [hu1] at hG hG0 hN hl2 hu9_11 hT
    dsimp only at hG hG0 hN hl2 hu9_11 hT
    rw [cat_splice (m := 1) rfl] at hu9_11 hT
    have hst := hsts (.t v0 u1) (by simp [sub1, hu1])
    have hok8 := hSl.ok _ (List.getElem_mem hi')
    have htb : ∀ x ∈ [b], x.ok := fun x hx => by rw [List.mem_singleton.1 hx]; exact hBe.tok
    have hgl := hG.lt
    have hSl9 := hSl.bds.lt'
    have hbl := hBe.ok.lt
    have hutm := tys_sub hu1
    have hset := hSl.set hi' (bd := { Bs'[i] with A := A2, cap := c2, nodes := u1.enc 0 }) (b := .t v0 u1) (by simp [pl, Bt.pl, hvar, hrow, q28]) ⟨sub_ok htb htk.1 hutm.1, hutm.2⟩ ⟨own_sl (wide9 hN) (by decide) hG0, hN, hok8.row, by dsimp only; omega⟩ (hG0.gw.mono (by omega)) (.inr ⟨by dsimp only; omega, by dsimp only; omega⟩) (fun j hj hij => by have := (hSl3.ok _ (List.getElem_mem hj)).lt; dsimp only; omega) hc (by simp) sp_ty hcl hu9_11 hT
    exact At.via (ih (i + 1, Bs'.set i { Bs'[i] with A := A2, cap := c2, nodes := u1.enc 0 }, Ts'.set i (.t v0 u1)) _ ⟨by omega, by rw [List.length_set]; exact hll, hset, hst, by rw [List.length_set]; exact hs, o0_0, o1_1, hBe.set hu9_11 (by dsimp only; omega), hM.set hu9_11⟩ (by simp only; omega)) ⟨rfl, rfl, rfl, rfl, rfl, trivial⟩
  first | (simp only [decide_eq_true_eq, decide_eq_false_iff_not, Bool.not_eq_true', Bool.not_eq_false', ne_eq, Decidable.not_not, Bool.not_eq_true, Bool.not_eq_false] at q17) | (dsimp only at q17) | skip
  refine At.drawE ((Bks.cons o0_0.blk (Bks.cons hs.blk Bks.nil))) [10] mixed rfl rfl ?_
  refine RegD.tpur (i := 0) rfl rfl rfl rfl (by kernel_rfl) (Pur.mv rfl) ?_
  refine RegD.tpur (i := 1) rfl rfl rfl rfl (by kernel_rfl) (Pur.mv rfl) ?_
  refine RegD.tpur (i := 2) rfl rfl rfl rfl (by kernel_rfl) (Pur.nilc rfl) ?_
  refine RegD.tpur (i := 3) rfl rfl rfl rfl (by kernel_rfl) (Pur.fld _ fo122_0 rfl) ?_
  refine RegD.take (i := 4) rfl rfl rfl rfl (by kernel_rfl) (Bks.cons o0_0.blk (Bks.cons hs.blk Bks.nil)) (fun H hS => Lod.ld sc22 rfl hS.tl.hd rfl) ?_
  refine RegD.take (i := 5) rfl rfl rfl rfl (by kernel_rfl) (Bks.cons o0_0.blk (Bks.cons hs.blk Bks.nil)) (fun H hS => Lod.ldn ag49 rfl hS.hd (whole h8) h8) ?_
  refine RegD.one (i := 6) (by kernel_rfl) rfl rfl rfl rfl (Does.bslA ([encB bd]) slA22 rfl rfl rfl (by simp [h8]) rfl rfl) ?_
  rintro _ H13_6 ⟨rfl, hp13_6⟩
  have hn13_6 := New.of_eq hp13_6
  have z13_6 := hn13_6.size
  replace hs := hs.ext hn13_6.ext
  replace o0_0 := o0_0.ext hn13_6.ext
  replace o1_1 := o1_1.ext hn13_6.ext
  replace hSl := hSl.ext hn13_6.ext
  replace hBe := hBe.ext hn13_6.ext
  replace hM := hM.ext hn13_6.ext
  have o13_6 := hn13_6.own
  refine ⟨fun _ _ => (Bks.cons o0_0.blk (Bks.cons hs.blk Bks.nil)), ?_⟩
  have hg := hSl.g
  have z_hg := hg.lt
  have hSl0 := hSl
  have hBe0 := hBe
  have hM0 := hM

  refine RegD.one (i := 7) (by kernel_rfl) rfl rfl rfl rfl (Does.appL apt22 rfl rfl (by decide) hg (fun x hx ↦ by rw [List.mem_singleton.1 hx]; exact h8) (sl_one (x := bd) h8 (by decide) hn13_6) (ones_fl bd) (by simp; omega) (by omega)) ?_
  rintro _ H13_7 ⟨A13_7, cap13_7, rfl, g13_7, hbut13_7, ha13_7⟩
  have z13_7 := hbut13_7.lt
  replace hs := hs.via hbut13_7 (by first | omega | (intro g; omega) | (intro g hg; omega) | (intro g hg h; omega))
  replace o0_0 := o0_0.via hbut13_7 (by first | omega | (intro g; omega) | (intro g hg; omega) | (intro g hg h; omega))
  replace o13_6 := o13_6.via hbut13_7 (by first | omega | (intro g; omega) | (intro g hg; omega) | (intro g hg h; omega))
  replace hg := g13_7
  have zg13_7 := g13_7.lt
  refine ⟨fun _ _ => (Bks.cons o0_0.blk (Bks.cons hs.blk Bks.nil)), ?_⟩
  refine RegD.tpur (i := 8) rfl rfl rfl rfl (by kernel_rfl) (Pur.nilc rfl) ?_
  refine RegD.tpur (i := 9) rfl rfl rfl rfl (by kernel_rfl) (Pur.fld _ fo122_0 rfl) ?_
  refine RegD.one0 (i := 10) (by kernel_rfl) rfl rfl rfl (Does.st sc22 rfl rfl rfl hs (by first | decide | (simp; done) | (simp; omega) | omega)) ?_
  rintro _ H13_10 hu13_10
  have z13_10 := hu13_10.size
  replace o0_0 := o0_0.upw hu13_10 (by omega)
  replace o13_6 := o13_6.upw hu13_10 (by omega)
  replace hg := hg.upw hu13_10 (by omega)
  replace hs := hu13_10.own
  refine ⟨fun h => (by cases h), ?_⟩
  refine RegD.done (by kernel_rfl) ?_
  refine At.region rfl rfl ?_
  refine Reg.pur rfl rfl rfl rfl (Pur.asg rfl) ?_
  refine Reg.nil ?_
  refine At.ret rfl Try.func129 rfl ?_
  have hend : addB b Ts = some (Ts' ++ [b]) := by { have hle := hSl0.lenT; rw [hadd, List.drop_eq_nil_of_le (by omega), List.take_of_length_le (by omega)]; rfl }
  rw [hend]
  have hbs : But (fun x => x = sb ∨ (x : Int) = ob A) H13_6 H13_10 := (hbut13_7.mono (fun b hb e => Or.inr e)).trans (hu13_10.but.mono (fun b hb e => Or.inl e))
  have hsl := hSl0.app hBe0 hg hbs (by omega) (by omega) (by omega)
  exact ⟨rfl, _, _, _, hsl, hs, hM0.trans ⟨hbs, by omega⟩⟩
end Go.Proofs.Ytlfillhffpiffaa

namespace Go.Proofs.Ytlfillhffpiffaa
set_option linter.unusedSimpArgs false
set_option linter.unusedVariables false
set_option maxRecDepth 8000
open Go Go.Fx Go.Proofs
namespace FactsUniJ
theorem ag47 : ag Try.prog 47 = some 9 := by kernel_rfl
theorem es23 : esz Try.prog 23 = some 9 := by kernel_rfl
theorem isl23 : isSl Try.prog 23 = true := by kernel_rfl
end FactsUniJ
open FactsUniJ

abbrev clV (fid : FuncId) (kb : Nat) : Value := .func (.func fid) #[] #[ptr kb 0]
theorem indexFuncN_ok {A : Option Addr} {cap kb : Nat} {L : List (List Int)} (hL : Nine L) {H : Heap} (hS : SlT H Is 9 (.slice A L.length cap) L) (hm : L.length ≤ 100000) (fid : FuncId) (p : List Int → Bool)
    (hF : ∀ H' x, x ∈ L → Ext H H' → Ret Try.prog fid [.agg (Is x).toArray, ptr kb 0] H' (fun v H'' => v = .bool (p x) ∧ Ext H' H'')) :
    Ret Try.prog 127 [.slice A L.length cap, clV fid kb] H (fun v H' => (∃ r, v = I r ∧ decide (0 ≤ r) = L.any p) ∧ Ext H H') := by
  refine Ret.of_at (N := 19) Try.call127 Try.func127 rfl rfl rfl ?_
  have hE := Ext.refl H
  refine At.region rfl rfl ?_
  refine Reg.pur rfl rfl rfl rfl (Pur.asg rfl) ?_
  refine Reg.nil ?_
  refine At.region rfl rfl ?_
  refine Reg.pur rfl rfl rfl rfl (Pur.mv rfl) ?_
  refine Reg.pur rfl rfl rfl rfl (Pur.lenS isl23 rfl) ?_
  refine Reg.pur rfl rfl rfl rfl (Pur.mv rfl) ?_
  refine Reg.nil ?_
  refine At.loop (σ := Nat) (fun i => [(8, I i), (7, I L.length), (0, .slice A L.length cap), (1, clV fid kb)]) (fun i H' => i ≤ L.length ∧ Ext H H' ∧ (L.take i).any p = false) (fun i => L.length - i) 0 rfl ⟨rfl, rfl, rfl, rfl, trivial⟩ ⟨by omega, hE, rfl⟩ ?_
  clear hE
  rintro i H1 ⟨hi, hE, hgo⟩ ih
  have z_hE := hE.lt
  refine At.region rfl rfl ?_
  refine Reg.pur rfl rfl rfl rfl (Pur.lss rfl rfl) ?_
  refine Reg.nil ?_
  refine At.cond rfl rfl (fun q9 => ?_) (fun q9 => ?_)
  · first | (simp only [decide_eq_true_eq, decide_eq_false_iff_not, Bool.not_eq_true', Bool.not_eq_false', ne_eq, Decidable.not_not, Bool.not_eq_true, Bool.not_eq_false] at q9) | (dsimp only at q9) | skip
    refine At.region rfl rfl ?_
    refine Reg.pur rfl rfl rfl rfl (Pur.mv rfl) ?_
    refine Reg.pur rfl rfl rfl rfl (Pur.asg rfl) ?_
    refine Reg.nil ?_
    have hlt : i < L.length := by omega
    obtain ⟨b, o, c, rfl, hB, hd, h9⟩ := sl_at (wide9 hL) (hS.ext hE) hlt
    have hany := any_take1 (p := p) hlt
    rw [hgo] at hany
    have hmem := List.getElem_mem hlt
    refine At.region rfl rfl ?_
    refine Reg.pur rfl rfl rfl rfl (Pur.mv rfl) ?_
    refine Reg.pur rfl rfl rfl rfl (Pur.mv rfl) ?_
    refine Reg.pur rfl rfl rfl rfl (Pur.mv rfl) ?_
    refine Reg.pur rfl rfl rfl rfl (Pur.idx _ es23 rfl rfl (by omega) (by omega)) ?_
    refine Reg.lod rfl rfl rfl rfl (Lod.ldn ag47 rfl hB hd h9) ?_
    refine Reg.op rfl rfl rfl rfl (Does.callv rfl rfl (hF _ L[i] hmem hE)) ?_
    rintro _ H4_5 ⟨rfl, hE4_5⟩
    have z4_5 := hE4_5.lt
    replace hE := hE.ext hE4_5
    refine Reg.nil ?_
    refine At.cond rfl rfl (fun q16 => ?_) (fun q16 => ?_)
    · first | (simp only [decide_eq_true_eq, decide_eq_false_iff_not, Bool.not_eq_true', Bool.not_eq_false', ne_eq, Decidable.not_not, Bool.not_eq_true, Bool.not_eq_false] at q16) | (dsimp only at q16) | skip
      refine At.region rfl rfl ?_
      refine Reg.pur rfl rfl rfl rfl (Pur.mv rfl) ?_
      refine Reg.pur rfl rfl rfl rfl (Pur.asg rfl) ?_
      refine Reg.nil ?_
      refine At.ret rfl Try.func127 rfl ?_
      refine ⟨⟨_, rfl, ?_⟩, hE⟩
      rw [List.any_eq_true.2 ⟨_, hmem, q16⟩]; exact decide_eq_true (by omega)
    first | (simp only [decide_eq_true_eq, decide_eq_false_iff_not, Bool.not_eq_true', Bool.not_eq_false', ne_eq, Decidable.not_not, Bool.not_eq_true, Bool.not_eq_false] at q16) | (dsimp only at q16) | skip
    refine At.region rfl rfl ?_
    first | refine Reg.pur rfl rfl rfl rfl (Pur.add64 rfl rfl (by omega)) ?_ | refine Reg.pur rfl rfl rfl rfl (Pur.add64 rfl rfl (by assumption)) ?_ | refine Reg.pur rfl rfl rfl rfl (Pur.add rfl rfl) ?_
    refine Reg.pur rfl rfl rfl rfl (Pur.mv rfl) ?_
    refine Reg.nil ?_
    exact At.via (ih (i + 1) _ ⟨by omega, hE, by rw [hany, q16]; rfl⟩ (by omega)) ⟨rfl, rfl, rfl, rfl, trivial⟩
  first | (simp only [decide_eq_true_eq, decide_eq_false_iff_not, Bool.not_eq_true', Bool.not_eq_false', ne_eq, Decidable.not_not, Bool.not_eq_true, Bool.not_eq_false] at q9) | (dsimp only at q9) | skip
  refine At.region rfl rfl ?_
  refine Reg.pur rfl rfl rfl rfl (Pur.asg rfl) ?_
  refine Reg.nil ?_
  refine At.ret rfl Try.func127 rfl ?_
  rw [List.take_of_length_le (by omega)] at hgo
  exact ⟨⟨_, rfl, by rw [hgo]; rfl⟩, hE⟩
theorem containsFuncN_ok {A : Option Addr} {cap kb : Nat} {L : List (List Int)} (hL : Nine L) {H : Heap} (hS : SlT H Is 9 (.slice A L.length cap) L) (hm : L.length ≤ 100000) (fid : FuncId) (p : List Int → Bool)
    (hF : ∀ H' x, x ∈ L → Ext H H' → Ret Try.prog fid [.agg (Is x).toArray, ptr kb 0] H' (fun v H'' => v = .bool (p x) ∧ Ext H' H'')) :
    Ret Try.prog 100 [.slice A L.length cap, clV fid kb] H (fun v H' => v = .bool (L.any p) ∧ Ext H H') := by
  refine Ret.of_at (N := 9) Try.call100 Try.func100 rfl rfl rfl ?_
  have hE := Ext.refl H
  refine At.region rfl rfl ?_
  refine Reg.pur rfl rfl rfl rfl (Pur.asg rfl) ?_
  refine Reg.nil ?_
  refine At.region rfl rfl ?_
  refine Reg.pur rfl rfl rfl rfl (Pur.mv rfl) ?_
  refine Reg.pur rfl rfl rfl rfl (Pur.mv rfl) ?_
  refine Reg.op rfl rfl rfl rfl (Does.call rfl (indexFuncN_ok hL (hS.ext hE) hm fid p hF)) ?_
  rintro _ H1_2 ⟨⟨r, rfl, hr⟩, hE1_2⟩
  have z1_2 := hE1_2.lt
  replace hE := hE.ext hE1_2
  refine Reg.pur rfl rfl rfl rfl (Pur.geq rfl rfl) ?_
  refine Reg.pur rfl rfl rfl rfl (Pur.asg rfl) ?_
  refine Reg.nil ?_
  refine At.ret rfl Try.func100 rfl ?_
  exact ⟨congrArg Value.bool hr, hE⟩
end Go.Proofs.Ytlfillhffpiffaa

namespace Go.Proofs.Ytlfillhffpiffaa
set_option linter.unusedSimpArgs false
set_option linter.unusedVariables false
set_option maxRecDepth 8000
open Go Go.Fx Go.Proofs

def domR : List Bt → List Int
  | [] => []
  | .r v _ :: l => v :: domR l
  | .t _ _ :: l => domR l
def occR (v : Int) : Tm → Bool
  | .bas _ => false
  | .var _ => false
  | .fn a r b => occR v a || decide (r.getD 4 0 = v) || occR v b
def Bt.occR (v : Int) : Bt → Bool
  | .t _ u => Go.Proofs.Ytlfillhffpiffaa.occR v u
  | .r _ s => decide (s.getD 4 0 = v)
theorem dom_len : ∀ l : List Bt, (domT l).length + (domR l).length = l.length
  | [] => rfl
  | .t _ _ :: l => by have := dom_len l; simp only [domT, domR, List.length_cons]; omega
  | .r _ _ :: l => by have := dom_len l; simp only [domT, domR, List.length_cons]; omega
theorem findR_none {v : Int} : ∀ {l : List Bt}, findR l v = none → v ∉ domR l
  | [], _ => by simp [domR]
  | .r w u :: l, h => by
    simp only [findR] at h
    split at h
    · cases h
    · rename_i hw
      simp only [domR, List.mem_cons, not_or]
      exact ⟨fun e => hw e.symm, findR_none h⟩
  | .t w s :: l, h => findR_none (l := l) h
theorem tail_rw {Ts : List Bt} {r u : List Int} (h : rwS Ts r = some u) (h0 : 0 ≤ u.getD 4 0) : (r.getD 4 0 = u.getD 4 0 ∧ u.getD 4 0 ∉ domR Ts) ∨ ∃ b ∈ Ts, b.occR (u.getD 4 0) = true := by
  unfold rwS at h
  split at h
  · cases h; omega
  · split at h
    · rename_i hf; cases h; exact .inl ⟨rfl, findR_none hf⟩
    · rename_i s hf
      split at h
      · cases h
        refine .inr ⟨_, findR_some hf, ?_⟩
        show decide (s.getD 4 0 = (sumR r s).getD 4 0) = true
        exact decide_eq_true (by simp [sumR])
      · cases h
theorem occR_sub {Ts : List Bt} {v : Int} (h0 : 0 ≤ v) : ∀ {t u : Tm}, sub Ts t = some u → occR v u = true → (occR v t = true ∧ v ∉ domR Ts) ∨ ∃ b ∈ Ts, b.occR v = true
  | .bas k, u, h, ho => by cases h; cases ho
  | .var w, u, h, ho => by
    simp only [sub] at h
    cases hf : findT Ts w with
    | none => rw [hf] at h; cases h; cases ho
    | some x => rw [hf] at h; cases h; exact .inr ⟨_, find_some hf, ho⟩
  | .fn a r b, u, h, ho => by
    obtain ⟨a', r', b', h1, h2, h3, rfl⟩ := sub_fn h
    simp only [occR, Bool.or_eq_true] at ho ⊢
    rcases ho with (ho | ho) | ho
    · rcases occR_sub h0 h1 ho with h | h
      · exact .inl ⟨.inl (.inl h.1), h.2⟩
      · exact .inr h
    · rw [decide_eq_true_eq] at ho
      subst ho
      rcases tail_rw h2 h0 with h | h
      · exact .inl ⟨.inl (.inr (decide_eq_true h.1)), h.2⟩
      · exact .inr h
    · rcases occR_sub h0 h3 ho with h | h
      · exact .inl ⟨.inr h.1, h.2⟩
      · exact .inr h
structure InvR (l : List Bt) (f : Int) : Prop where
  dom : (domR l).Pairwise (· ≠ ·)
  rng : ∀ v ∈ domR l, 0 ≤ v ∧ v < f
  idem : ∀ v ∈ domR l, ∀ b ∈ l, b.occR v = false
  low : ∀ v, f ≤ v → ∀ b ∈ l, b.occR v = false
theorem invR_nil (f : Int) : InvR [] f := ⟨List.Pairwise.nil, fun v h => (by cases h), fun v h => (by cases h), fun v _ b h => (by cases h)⟩
theorem occR_sub1 {b c c' : Bt} {v : Int} (h0 : 0 ≤ v) (h : sub1 b c = some c') (ho : c'.occR v = true) : (c.occR v = true ∧ v ∉ domR [b]) ∨ b.occR v = true := by
  cases c with
  | t w u =>
    obtain ⟨u', h1, rfl⟩ := sub1_T h
    rcases occR_sub h0 (tys_sub h1).1 ho with h | ⟨x, hx, h⟩
    · exact .inl h
    · rw [List.mem_singleton.1 hx] at h; exact .inr h
  | r w u =>
    obtain ⟨u', h1, rfl⟩ := sub1_R h
    have hv : u'.getD 4 0 = v := by simpa [Bt.occR] using ho
    subst hv
    rcases tail_rw h1 h0 with h | ⟨x, hx, h⟩
    · exact .inl ⟨decide_eq_true h.1, h.2⟩
    · rw [List.mem_singleton.1 hx] at h; exact .inr h
theorem addB_domR {b : Bt} : ∀ {l m : List Bt}, addB b l = some m → domR m = domR l ++ domR [b]
  | [], m, h => by cases h; rfl
  | c :: l, m, h => by
    obtain ⟨c', l', h1, h2, rfl⟩ := addB_cons h
    have ih := addB_domR h2
    cases c with
    | r v u => obtain ⟨u', _, rfl⟩ := sub1_R h1; simp only [domR, ih]; rfl
    | t v u => obtain ⟨u', _, rfl⟩ := sub1_T h1; simp only [domR, ih]
theorem InvR.add {l m : List Bt} {f f' : Int} {b : Bt} (h : InvR l f) (hff : f ≤ f') (h0 : 0 ≤ f) (hd : ∀ v ∈ domR [b], 0 ≤ v ∧ v < f' ∧ v ∉ domR l) (hb : ∀ v ∈ domR l ++ domR [b], b.occR v = false) (hlow : ∀ v, f' ≤ v → b.occR v = false) (ha : addB b l = some m) : InvR m f' ∧ domR m = domR l ++ domR [b] := by
  have hdm := addB_domR ha
  have hmem := addB_mem ha
  refine ⟨⟨?_, ?_, ?_, ?_⟩, hdm⟩
  · rw [hdm, List.pairwise_append]
    refine ⟨h.dom, ?_, fun x hx y hy e => (hd y hy).2.2 (e ▸ hx)⟩
    cases b with
    | t v u => exact List.Pairwise.nil
    | r v u => exact List.pairwise_singleton _ _
  · intro v hv
    rw [hdm] at hv
    rcases List.mem_append.1 hv with hv | hv
    · have := h.rng v hv; omega
    · have := hd v hv; omega
  · intro v hv c hc
    rw [hdm] at hv
    have hv0 : 0 ≤ v := by
      rcases List.mem_append.1 hv with hv | hv
      · exact (h.rng v hv).1
      · exact (hd v hv).1
    rcases hmem c hc with rfl | ⟨d, hdl, hs⟩
    · exact hb v hv
    · cases ho : c.occR v with
      | false => rfl
      | true =>
        rcases occR_sub1 hv0 hs ho with h1 | h1
        · rcases List.mem_append.1 hv with hv | hv
          · rw [h.idem v hv d hdl] at h1; cases h1.1
          · exact (h1.2 hv).elim
        · rw [hb v hv] at h1; cases h1
  · intro v hv c hc
    rcases hmem c hc with rfl | ⟨d, hdl, hs⟩
    · exact hlow v hv
    · cases ho : c.occR v with
      | false => rfl
      | true =>
        rcases occR_sub1 (by omega) hs ho with h1 | h1
        · rw [h.low v (by omega) d hdl] at h1; cases h1.1
        · rw [hlow v hv] at h1; cases h1
theorem InvR.cnt {l : List Bt} {f : Int} (h : InvR l f) (hf : f ≤ 4096) : (domR l).length ≤ 4096 := pigeon 4096 _ h.dom (fun v hv => by have := h.rng v hv; omega)
theorem inv_len {l : List Bt} {f : Int} (h : Inv l) (k : InvR l f) (hf : f ≤ 4096) : l.length ≤ 8192 := by
  have := dom_len l
  have := h.cnt
  have := k.cnt hf
  omega

theorem getD_app {c : List Int} (h : c.length = 4) (t : Int) : (c ++ [t]).getD 4 0 = t := by
  match c, h with
  | [p, q, r, s], _ => rfl
theorem uniR_cases {a b : List Int} {f : Int} (h : (uniR a b f).2 = 0) : a.getD 4 0 < f ∧ b.getD 4 0 < f ∧
    ((uniR a b f).1 = [] ∨ (∃ v s, (uniR a b f).1 = [bR v s] ∧ 0 ≤ v ∧ (v = a.getD 4 0 ∨ v = b.getD 4 0) ∧ s.getD 4 0 ≠ v ∧ (s.getD 4 0 = -1 ∨ s.getD 4 0 = a.getD 4 0 ∨ s.getD 4 0 = b.getD 4 0)) ∨
      ∃ s s', (uniR a b f).1 = [bR (a.getD 4 0) s, bR (b.getD 4 0) s'] ∧ a.getD 4 0 ≠ b.getD 4 0 ∧ 0 ≤ a.getD 4 0 ∧ 0 ≤ b.getD 4 0 ∧ s.getD 4 0 = f ∧ s'.getD 4 0 = f) := by
  unfold uniR at h ⊢
  split at h
  · rename_i hc
    rw [if_pos hc]
    have ha := rowM_t hc.1
    have hb := rowM_t hc.2.1
    refine ⟨hc.2.2.2.2.1, hc.2.2.2.2.2, ?_⟩
    have l1 : (subC a b).length = 4 := rfl
    have l2 : (subC b a).length = 4 := rfl
    unfold uniQ at h ⊢
    by_cases e1 : a.getD 4 0 = b.getD 4 0
    · rw [if_pos e1]; split <;> exact .inl rfl
    · rw [if_neg e1]
      split
      · exact .inl rfl
      · split
        · exact .inr (.inl ⟨_, _, rfl, by omega, .inl rfl, by rw [getD_app l2]; omega, by rw [getD_app l2]; omega⟩)
        · split
          · exact .inr (.inl ⟨_, _, rfl, by omega, .inr rfl, by rw [getD_app l1]; omega, by rw [getD_app l1]; omega⟩)
          · split
            · exact .inr (.inl ⟨_, _, rfl, by omega, .inl rfl, by rw [getD_app l2]; omega, by rw [getD_app l2]; omega⟩)
            · split
              · exact .inr (.inl ⟨_, _, rfl, by omega, .inr rfl, by rw [getD_app l1]; omega, by rw [getD_app l1]; omega⟩)
              · exact .inr (.inr ⟨_, _, rfl, e1, by omega, by omega, getD_app l2 _, getD_app l1 _⟩)
  · simp at h
structure Good (s : Us) : Prop where
  inv : Inv s.1
  invR : InvR s.1 s.2
  f0 : 0 ≤ s.2
  f1 : s.2 ≤ 4096
theorem Good.len {s : Us} (h : Good s) : s.1.length ≤ 8192 := inv_len h.inv h.invR h.f1
theorem rw_tail {l : List Bt} {f : Int} (h : InvR l f) {r u : List Int} (hr : r.getD 4 0 < f) (hu : rwS l r = some u) (h0 : 0 ≤ u.getD 4 0) : u.getD 4 0 ∉ domR l ∧ u.getD 4 0 < f := by
  rcases tail_rw hu h0 with ⟨h1, h2⟩ | ⟨b, hb, h1⟩
  · exact ⟨h2, by omega⟩
  · refine ⟨fun hm => ?_, ?_⟩
    · rw [h.idem _ hm b hb] at h1; cases h1
    · rcases Int.lt_or_le (u.getD 4 0) f with h2 | h2
      · exact h2
      · rw [h.low _ h2 b hb] at h1; cases h1
theorem rowsU_good {s s' : Us} {a b : List Int} (h : Good s) (ha5 : a.length = 5) (ha : rowM a = true) (hb5 : b.length = 5) (hb : rowM b = true) (hta : a.getD 4 0 < s.2) (htb : b.getD 4 0 < s.2) (e : rowsU s a b = .ok s') : Good s' ∧ s.2 ≤ s'.2 ∧ domT s'.1 = domT s.1 := by
  obtain ⟨hi, hd⟩ := rowsU_inv h.inv ha5 ha hb5 hb e
  have hf0 := h.f0
  unfold rowsU at e
  cases h1 : rwS s.1 a with
  | none => rw [h1] at e; cases e
  | some a' =>
    cases h2 : rwS s.1 b with
    | none => rw [h1, h2] at e; cases e
    | some b' =>
      rw [h1, h2] at e
      dsimp only at e
      split at e
      · cases e
      · rename_i hf
        split at e
        · cases e
        · rename_i hc
          have hc' : (uniR a' b' s.2).2 = 0 := by simpa using hc
          have ta := rw_tail h.invR hta h1
          have tb := rw_tail h.invR htb h2
          obtain ⟨k1, k2, hcs⟩ := uniR_cases hc'
          cases h3 : addAll ((uniR a' b' s.2).1.map bt) s.1 with
          | none => rw [h3] at e; cases e
          | some m =>
            rw [h3] at e
            cases e
            rcases hcs with hl | ⟨v, t, hl, hv0, hv, htv, htt⟩ | ⟨t, t', hl, hab, ha0, hb0, ht, ht'⟩
            · rw [hl] at h3 ⊢
              cases h3
              exact ⟨⟨hi, by simpa using h.invR, by simpa using h.f0, by simpa using h.f1⟩, by simp, hd⟩
            · rw [hl] at h3 ⊢
              simp only [List.map_cons, List.map_nil, addAll] at h3
              cases h4 : addB (bt (bR v t)) s.1 with
              | none => rw [h4] at h3; cases h3
              | some m' =>
                rw [h4] at h3; cases h3
                have hvl : v ∉ domR s.1 ∧ v < s.2 := by
                  rcases hv with rfl | rfl
                  · exact ta hv0
                  · exact tb hv0
                have hfree : ∀ w, 0 ≤ w → w ∈ domR s.1 ∨ w = v ∨ s.2 ≤ w → t.getD 4 0 ≠ w := by
                  intro w hw hh
                  rcases hh with hh | rfl | hh
                  · intro ee
                    rcases htt with h5 | h5 | h5
                    · omega
                    · exact (ta (by omega)).1 (by rw [← h5, ee]; exact hh)
                    · exact (tb (by omega)).1 (by rw [← h5, ee]; exact hh)
                  · exact htv
                  · omega
                have := h.invR.add (b := .r v t) (f' := s.2) (Int.le_refl _) h.f0 (fun w hw => by
                  have : w = v := by simpa [domR] using hw
                  subst this; exact ⟨hv0, hvl.2, hvl.1⟩) (fun w hw => by
                  refine decide_eq_false (hfree w ?_ ?_)
                  · rcases List.mem_append.1 hw with hw | hw
                    · exact (h.invR.rng w hw).1
                    · have : w = v := by simpa [domR] using hw
                      omega
                  · rcases List.mem_append.1 hw with hw | hw
                    · exact .inl hw
                    · exact .inr (.inl (by simpa [domR] using hw))) (fun w hw => decide_eq_false (hfree w (by omega) (.inr (.inr hw)))) h4
                exact ⟨⟨hi, by simpa using this.1, by simpa using h.f0, by simpa using h.f1⟩, by simp, hd⟩
            · rw [hl] at h3 ⊢
              simp only [List.map_cons, List.map_nil, addAll] at h3
              obtain ⟨ta1, ta2⟩ := ta ha0
              obtain ⟨tb1, tb2⟩ := tb hb0
              cases h4 : addB (bt (bR (a'.getD 4 0) t)) s.1 with
              | none => rw [h4] at h3; cases h3
              | some m1 =>
                rw [h4] at h3
                dsimp only at h3
                cases h5 : addB (bt (bR (b'.getD 4 0) t')) m1 with
                | none => rw [h5] at h3; cases h3
                | some m2 =>
                  rw [h5] at h3; cases h3
                  have r1 := h.invR.add (b := .r (a'.getD 4 0) t) (f' := s.2 + 1) (by omega) h.f0 (fun w hw => by
                    have : w = a'.getD 4 0 := by simpa [domR] using hw
                    subst this; exact ⟨ha0, by omega, ta1⟩) (fun w hw => by
                    refine decide_eq_false ?_
                    rcases List.mem_append.1 hw with hw | hw
                    · have := (h.invR.rng w hw).2; omega
                    · have : w = a'.getD 4 0 := by simpa [domR] using hw
                      omega) (fun w hw => decide_eq_false (by omega)) h4
                  have hdm1 : domR m1 = domR s.1 ++ [a'.getD 4 0] := r1.2
                  have r2 := r1.1.add (b := .r (b'.getD 4 0) t') (f' := s.2 + 1) (Int.le_refl _) (by omega) (fun w hw => by
                    have : w = b'.getD 4 0 := by simpa [domR] using hw
                    subst this
                    refine ⟨hb0, by omega, ?_⟩
                    rw [hdm1, List.mem_append, not_or]
                    exact ⟨tb1, by simpa using fun e => hab e.symm⟩) (fun w hw => by
                    refine decide_eq_false ?_
                    rw [hdm1] at hw
                    rcases List.mem_append.1 hw with hw | hw
                    · rcases List.mem_append.1 hw with hw | hw
                      · have := (h.invR.rng w hw).2; omega
                      · have : w = a'.getD 4 0 := by simpa using hw
                        omega
                    · have : w = b'.getD 4 0 := by simpa [domR] using hw
                      omega) (fun w hw => decide_eq_false (by omega)) h5
                  have hlen : ((([bR (a'.getD 4 0) t, bR (b'.getD 4 0) t'] : List Bd).length / 2 : Nat) : Int) = 1 := by simp
                  rw [hlen]
                  exact ⟨⟨hi, r2.1, by dsimp only; omega, by dsimp only; omega⟩, by dsimp only; omega, hd⟩

def Lw (f : Int) (t : Tm) : Prop := ∀ v, f ≤ v → occR v t = false
theorem Lw.mono {f f' : Int} {t : Tm} (h : Lw f t) (hf : f ≤ f') : Lw f' t := fun v hv => h v (by omega)
theorem sub_low {l : List Bt} {f : Int} (h : InvR l f) (h0 : 0 ≤ f) {t u : Tm} (ht : Lw f t) (hu : sub l t = some u) : Lw f u ∧ ∀ v ∈ domR l, occR v u = false := by
  constructor
  · intro v hv
    cases ho : occR v u with
    | false => rfl
    | true =>
      rcases occR_sub (by omega) hu ho with h1 | ⟨b, hb, h1⟩
      · rw [ht v hv] at h1; cases h1.1
      · rw [h.low v hv b hb] at h1; cases h1
  · intro v hv
    cases ho : occR v u with
    | false => rfl
    | true =>
      rcases occR_sub (h.rng v hv).1 hu ho with h1 | ⟨b, hb, h1⟩
      · exact (h1.2 hv).elim
      · rw [h.idem v hv b hb] at h1; cases h1
theorem bindU_good {s s' : Us} {v : Int} {t : Tm} (h : Good s) (hi : Grw s s') (hl : Lw s.2 t) (hf : ∀ w ∈ domR s.1, occR w t = false) (e : bindU s v t = .ok s') : Good s' ∧ s.2 ≤ s'.2 := by
  unfold bindU at e
  split at e
  · cases e
  · cases ha : addB (.t v t) s.1 with
    | none => rw [ha] at e; cases e
    | some l =>
      rw [ha] at e; cases e
      have := h.invR.add (b := .t v t) (f' := s.2) (Int.le_refl _) h.f0 (fun w hw => by cases hw) (fun w hw => by
        rcases List.mem_append.1 hw with hw | hw
        · exact hf w hw
        · cases hw) hl ha
      exact ⟨⟨hi.1, this.1, h.f0, h.f1⟩, Int.le_refl _⟩
theorem leafU_good {s s' : Us} {p q : Tm} (h : Good s) (hg : Grw s s') (hpl : Lw s.2 p) (hql : Lw s.2 q) (hpf : ∀ w ∈ domR s.1, occR w p = false) (hqf : ∀ w ∈ domR s.1, occR w q = false) (e : leafU s p q = .ok s') : Good s' ∧ s.2 ≤ s'.2 := by
  have hr : Good s ∧ s.2 ≤ s.2 := ⟨h, Int.le_refl _⟩
  cases p with
  | var v =>
    cases q with
    | var w =>
      simp only [leafU] at e
      split at e
      · cases e; exact hr
      · exact bindU_good h hg hql hqf e
    | bas k => exact bindU_good h hg hql hqf e
    | fn a r b => exact bindU_good h hg hql hqf e
  | bas k =>
    cases q with
    | var w => exact bindU_good h hg hpl hpf e
    | bas l =>
      simp only [leafU] at e
      split at e
      · cases e; exact hr
      · cases e
    | fn a r b => cases e
  | fn a r b =>
    cases q with
    | var w => exact bindU_good h hg hpl hpf e
    | bas l => cases e
    | fn a r b => cases e
theorem lw_row {f : Int} {a b : Tm} {r : List Int} (h : Lw f (.fn a r b)) : Lw f a ∧ r.getD 4 0 < f ∧ Lw f b := by
  refine ⟨fun v hv => ?_, ?_, fun v hv => ?_⟩
  · have := h v hv; simp only [occR, Bool.or_eq_false_iff] at this; exact this.1.1
  · rcases Int.lt_or_le (r.getD 4 0) f with h2 | h2
    · exact h2
    · have := h _ h2; simp [occR] at this
  · have := h v hv; simp only [occR, Bool.or_eq_false_iff] at this; exact this.2
theorem uniU_good : ∀ (n : Nat) {s s' : Us} {a b : Tm}, Good s → a.ok → b.ok → Lw s.2 a → Lw s.2 b → uniU n s a b = some (.ok s') → Good s' ∧ s.2 ≤ s'.2 ∧ Grw s s'
  | 0, _, _, _, _, _, _, _, _, _, h => by cases h
  | n + 1, s, s', a, b, hG, ha, hb, hla, hlb, h => by
    cases h1 : tys s.1 a with
    | none => rw [uniU_bad (.inl h1)] at h; cases h
    | some p =>
      cases h2 : tys s.1 b with
      | none => rw [uniU_bad (.inr h2)] at h; cases h
      | some q =>
        obtain ⟨hsp, hpz⟩ := tys_sub h1
        obtain ⟨hsq, hqz⟩ := tys_sub h2
        have hpo := sub_ok hG.inv.ok ha hsp
        have hqo := sub_ok hG.inv.ok hb hsq
        have hpf : ∀ w ∈ domT s.1, occ w p = false := fun w hw => hG.inv.free hsp hw
        have hqf : ∀ w ∈ domT s.1, occ w q = false := fun w hw => hG.inv.free hsq hw
        obtain ⟨hpl, hpr⟩ := sub_low hG.invR hG.f0 hla hsp
        obtain ⟨hql, hqr⟩ := sub_low hG.invR hG.f0 hlb hsq
        cases hf : isFn p && isFn q with
        | false =>
          rw [uniU_leaf h1 h2 hf] at h
          have e : leafU s p q = .ok s' := by simpa using h
          have hg := leafU_inv hG.inv hpo hqo hpz hqz hpf hqf e
          obtain ⟨k1, k2⟩ := leafU_good hG hg hpl hql hpr hqr e
          exact ⟨k1, k2, hg⟩
        | true =>
          cases p with
          | var v => cases hf
          | bas k => cases hf
          | fn f r g =>
            cases q with
            | var v => cases hf
            | bas k => cases hf
            | fn h' r' i =>
              obtain ⟨lf, lr, lg⟩ := lw_row hpl
              obtain ⟨lh, lr', li⟩ := lw_row hql
              rw [uniU_fn h1 h2] at h
              cases hu : uniU n s f h' with
              | none => rw [hu] at h; cases h
              | some x =>
                rw [hu] at h
                cases x with
                | error c => cases h
                | ok s1 =>
                  dsimp only at h
                  obtain ⟨G1, m1, g1⟩ := uniU_good n hG hpo.1 hqo.1 lf lh hu
                  cases hr : rowsU s1 r r' with
                  | error c => rw [hr] at h; cases h
                  | ok s2 =>
                    rw [hr] at h
                    dsimp only at h
                    obtain ⟨G2, m2, d2⟩ := rowsU_good G1 hpo.2.1 hpo.2.2.1 hqo.2.1 hqo.2.2.1 (by omega) (by omega) hr
                    obtain ⟨G3, m3, k1, k2, k3⟩ := uniU_good n G2 hpo.2.2.2 hqo.2.2.2 (lg.mono (by omega)) (li.mono (by omega)) h
                    obtain ⟨j1, j2, j3⟩ := g1
                    rw [d2] at k2 k3
                    exact ⟨G3, by omega, k1, by omega, fun e => by rw [k3 (by omega), j3 (by omega)]⟩
end Go.Proofs.Ytlfillhffpiffaa

namespace Go.Proofs.Ytlfillhffpiffaa
set_option linter.unusedSimpArgs false
set_option linter.unusedVariables false
set_option maxRecDepth 8000
open Go Go.Fx Go.Proofs
namespace FactsUniK
theorem ag25 : ag Try.prog 25 = some 1 := by kernel_rfl
theorem fo25_0 : foff Try.prog 25 0 = some 0 := by kernel_rfl
theorem fo28_1 : foff Try.prog 28 1 = some 4 := by kernel_rfl
theorem fo47_0 : foff Try.prog 47 0 = some 0 := by kernel_rfl
theorem fo47_1 : foff Try.prog 47 1 = some 1 := by kernel_rfl
theorem fo47_4 : foff Try.prog 47 4 = some 4 := by kernel_rfl
theorem pl166 : places Try.prog 166 = some [(0, 1), (1, 1)] := by kernel_rfl
theorem pl49 : places Try.prog 49 = some [(0, 1), (1, 1), (2, 1), (3, 5)] := by kernel_rfl
theorem sc23 : sc Try.prog 23 = true := by kernel_rfl
theorem sc3 : sc Try.prog 3 = true := by kernel_rfl
theorem zc166 : zc Try.prog 166 = some [.string ⟨#[]⟩, .nilIface] := by kernel_rfl
theorem zc49 : zc Try.prog 49 = some [.int .i64 0, .bool false, .slice none 0 0, .int .i64 0, .int .i64 0, .int .i64 0, .int .i64 0, .int .i64 0] := by kernel_rfl
end FactsUniK
open FactsUniK

def pLow (f : Int) (x : List Int) : Bool := decide (x.getD 0 0 = 3) && decide (f ≤ x.getD 8 0)
def pVar (v : Int) (x : List Int) : Bool := decide (x.getD 0 0 = 2) && decide (x.getD 1 0 = v)
theorem any_var (v : Int) : ∀ (t : Tm) (k : Int), (t.enc k).any (pVar v) = occ v t
  | .bas b, k => by cases b <;> rfl
  | .var w, k => by simp [Tm.enc, pVar, occ]
  | .fn a r b, k => by
    simp only [Tm.enc, List.any_append, any_var v a, any_var v b, occ]
    have : pVar v (fNode (k + a.sz - 1) (k + a.sz + b.sz - 1) r) = false := rfl
    rw [List.any_cons, this]
    simp
theorem any_low (f : Int) : ∀ (t : Tm) (k : Int), t.ok → ((t.enc k).any (pLow f) = false ↔ Lw f t)
  | .bas b, k, _ => by cases b <;> simp [Tm.enc, pLow, Lw, occR]
  | .var w, k, _ => by simp [Tm.enc, pLow, Lw, occR]
  | .fn a r b, k, h => by
    have ha := any_low f a k h.1
    have hb := any_low f b (k + a.sz) h.2.2.2
    obtain ⟨r0, r1, r2, r3, r4, rfl⟩ := row_five h.2.1
    simp only [Tm.enc, List.any_append, Bool.or_eq_false_iff, ha, hb]
    constructor
    · rintro ⟨⟨h1, h2⟩, h3⟩ v hv
      have h4 : r4 < f := by
        have : pLow f (fNode (k + a.sz - 1) (k + a.sz + b.sz - 1) [r0, r1, r2, r3, r4]) = false := by simpa using h3
        simpa [pLow] using this
      simp only [occR, h1 v hv, h2 v hv, Bool.or_false, Bool.false_or]
      exact decide_eq_false (show ¬ r4 = v by omega)
    · intro hl
      obtain ⟨h1, h2, h3⟩ := lw_row hl
      refine ⟨⟨h1, h3⟩, ?_⟩
      have h4 : r4 < f := h2
      simp [pLow]; omega
theorem lowF_ok {x : List Int} (hx : x.length = 9) {f : Int} {kb : Nat} {H : Heap} (hk : Blk H kb [I f]) : Ret Try.prog 101 [.agg (Is x).toArray, ptr kb 0] H (fun v H' => v = .bool (pLow f x) ∧ Ext H H') := by
  match x, hx with
  | [k, w, p, q, c0, c1, c2, c3, t], _ =>
  refine Ret.of_at (N := 14) Try.call101 Try.func101 rfl rfl rfl ?_
  have hE := Ext.refl H
  have z_hE := hE.lt
  have z_hk := hk.lt
  refine At.region rfl rfl ?_
  refine Reg.op rfl rfl rfl rfl (Does.box rfl rfl) ?_
  rintro _ H0_0 ⟨rfl, hn0_0⟩
  have z0_0 := hn0_0.size
  replace hE := hE.ext hn0_0.ext
  replace hk := hk.ext hn0_0.ext
  have o0_0 := hn0_0.own
  refine Reg.pur rfl rfl rfl rfl (Pur.asg rfl) ?_
  refine Reg.nil ?_
  refine At.region rfl rfl ?_
  refine Reg.pur rfl rfl rfl rfl (Pur.fld _ fo47_0 rfl) ?_
  refine Reg.lod rfl rfl rfl rfl (Lod.ld sc3 rfl o0_0.blk (by first | rfl | (simp; done))) ?_
  refine Reg.pur rfl rfl rfl rfl (Pur.eql rfl rfl) ?_
  refine Reg.pur rfl rfl rfl rfl (Pur.mv rfl) ?_
  refine Reg.case 7 rfl (fun q7 => ?_) (fun q7 => ?_)
  · first | (simp only [decide_eq_true_eq, decide_eq_false_iff_not, Bool.not_eq_true', Bool.not_eq_false', ne_eq, Decidable.not_not, Bool.not_eq_true, Bool.not_eq_false] at q7) | (dsimp only at q7) | skip
    refine Reg.gpur rfl rfl rfl rfl rfl rfl (Pur.fld _ fo47_4 rfl) ?_
    refine Reg.gpur rfl rfl rfl rfl rfl rfl (Pur.fld _ fo28_1 rfl) ?_
    refine Reg.glod rfl rfl rfl rfl rfl rfl (Lod.ld sc3 rfl o0_0.blk (by first | rfl | (simp; done))) ?_
    refine Reg.glod rfl rfl rfl rfl rfl rfl (Lod.ld sc3 rfl hk rfl) ?_
    refine Reg.gpur rfl rfl rfl rfl rfl rfl (Pur.geq rfl rfl) ?_
    refine Reg.pur rfl rfl rfl rfl (Pur.pickT rfl rfl) ?_
    refine Reg.pur rfl rfl rfl rfl (Pur.asg rfl) ?_
    refine Reg.nil ?_
    refine At.ret rfl Try.func101 rfl ?_
    refine ⟨congrArg Value.bool ?_, hE⟩
    first | (simp [pLow, q7]; done) | (simp_all [pLow]; done)
  first | (simp only [decide_eq_true_eq, decide_eq_false_iff_not, Bool.not_eq_true', Bool.not_eq_false', ne_eq, Decidable.not_not, Bool.not_eq_true, Bool.not_eq_false] at q7) | (dsimp only at q7) | skip
  refine Reg.skip rfl rfl rfl rfl rfl rfl rfl ?_
  refine Reg.skip rfl rfl rfl rfl rfl rfl rfl ?_
  refine Reg.skip rfl rfl rfl rfl rfl rfl rfl ?_
  refine Reg.skip rfl rfl rfl rfl rfl rfl rfl ?_
  refine Reg.skip rfl rfl rfl rfl rfl rfl rfl ?_
  refine Reg.pur rfl rfl rfl rfl (Pur.pickF rfl rfl) ?_
  refine Reg.pur rfl rfl rfl rfl (Pur.asg rfl) ?_
  refine Reg.nil ?_
  refine At.ret rfl Try.func101 rfl ?_
  refine ⟨congrArg Value.bool ?_, hE⟩
  first | (simp [pLow, q7]; done) | (simp_all [pLow]; done)
theorem varF_ok {x : List Int} (hx : x.length = 9) {f : Int} {kb : Nat} {H : Heap} (hk : Blk H kb [I f]) : Ret Try.prog 128 [.agg (Is x).toArray, ptr kb 0] H (fun v H' => v = .bool (pVar f x) ∧ Ext H H') := by
  match x, hx with
  | [k, w, p, q, c0, c1, c2, c3, t], _ =>
  refine Ret.of_at (N := 13) Try.call128 Try.func128 rfl rfl rfl ?_
  have hE := Ext.refl H
  have z_hE := hE.lt
  have z_hk := hk.lt
  refine At.region rfl rfl ?_
  refine Reg.op rfl rfl rfl rfl (Does.box rfl rfl) ?_
  rintro _ H0_0 ⟨rfl, hn0_0⟩
  have z0_0 := hn0_0.size
  replace hE := hE.ext hn0_0.ext
  replace hk := hk.ext hn0_0.ext
  have o0_0 := hn0_0.own
  refine Reg.pur rfl rfl rfl rfl (Pur.asg rfl) ?_
  refine Reg.nil ?_
  refine At.region rfl rfl ?_
  refine Reg.pur rfl rfl rfl rfl (Pur.fld _ fo47_0 rfl) ?_
  refine Reg.lod rfl rfl rfl rfl (Lod.ld sc3 rfl o0_0.blk (by first | rfl | (simp; done))) ?_
  refine Reg.pur rfl rfl rfl rfl (Pur.eql rfl rfl) ?_
  refine Reg.pur rfl rfl rfl rfl (Pur.mv rfl) ?_
  refine Reg.case 7 rfl (fun q7 => ?_) (fun q7 => ?_)
  · first | (simp only [decide_eq_true_eq, decide_eq_false_iff_not, Bool.not_eq_true', Bool.not_eq_false', ne_eq, Decidable.not_not, Bool.not_eq_true, Bool.not_eq_false] at q7) | (dsimp only at q7) | skip
    refine Reg.gpur rfl rfl rfl rfl rfl rfl (Pur.fld _ fo47_1 rfl) ?_
    refine Reg.glod rfl rfl rfl rfl rfl rfl (Lod.ld sc3 rfl o0_0.blk (by first | rfl | (simp; done))) ?_
    refine Reg.glod rfl rfl rfl rfl rfl rfl (Lod.ld sc3 rfl hk rfl) ?_
    refine Reg.gpur rfl rfl rfl rfl rfl rfl (Pur.eql rfl rfl) ?_
    refine Reg.pur rfl rfl rfl rfl (Pur.pickT rfl rfl) ?_
    refine Reg.pur rfl rfl rfl rfl (Pur.asg rfl) ?_
    refine Reg.nil ?_
    refine At.ret rfl Try.func128 rfl ?_
    refine ⟨congrArg Value.bool ?_, hE⟩
    first | (simp [pVar, q7]; done) | (simp_all [pVar]; done)
  first | (simp only [decide_eq_true_eq, decide_eq_false_iff_not, Bool.not_eq_true', Bool.not_eq_false', ne_eq, Decidable.not_not, Bool.not_eq_true, Bool.not_eq_false] at q7) | (dsimp only at q7) | skip
  refine Reg.skip rfl rfl rfl rfl rfl rfl rfl ?_
  refine Reg.skip rfl rfl rfl rfl rfl rfl rfl ?_
  refine Reg.skip rfl rfl rfl rfl rfl rfl rfl ?_
  refine Reg.skip rfl rfl rfl rfl rfl rfl rfl ?_
  refine Reg.pur rfl rfl rfl rfl (Pur.pickF rfl rfl) ?_
  refine Reg.pur rfl rfl rfl rfl (Pur.asg rfl) ?_
  refine Reg.nil ?_
  refine At.ret rfl Try.func128 rfl ?_
  refine ⟨congrArg Value.bool ?_, hE⟩
  first | (simp [pVar, q7]; done) | (simp_all [pVar]; done)
def StpP (H : Heap) (lo sb : Nat) (A : Option Addr) (r : Except Int Us) (v : Value) (H' : Heap) : Prop :=
  match r with
  | .ok u => v = .nilIface ∧ ∃ A' cap' Bs', Slv H' lo sb A' cap' Bs' u.1 ∧ Own H' sb [.slice A' Bs'.length cap', I u.2] ∧ Md sb A A' H H'
  | .error c => PrtV H' v c ∧ (c = 1001 ∨ c = 1002 ∨ c = 1003) ∧ But (fun g => lo ≤ g) H H'
theorem stp_add {H H1 H2 : Heap} {lo sb : Nat} {A : Option Addr} {s : Us} {v : Int} {t : Tm} {w : Value} (ho : ¬ occ v t = true) (hE : Ext H H1) (hlo : lo ≤ sb) (h : AddP H1 lo sb A s.2 (addB (.t v t) s.1) w H2) : StpP H lo sb A (bindU s v t) w H2 := by
  unfold bindU
  rw [if_neg ho]
  cases ha : addB (.t v t) s.1 with
  | none => rw [ha] at h; exact ⟨h.1, .inr (.inr rfl), hE.but.trans h.2⟩
  | some l =>
    rw [ha] at h
    obtain ⟨rfl, A', cap', Bs', h1, h2, h3⟩ := h
    exact ⟨rfl, A', cap', Bs', h1, h2, h3.pre hE⟩
theorem bind_ok {H : Heap} {lo sb cap : Nat} {A : Option Addr} {Bs : List Bd} {s : Us} (h : Slv H lo sb A cap Bs s.1) (hs : Own H sb [.slice A Bs.length cap, I s.2]) (hl : Bs.length < 100000) {v : Int} {t : Tm} (ht : t.ok) (hz : t.sz ≤ 256) {A1 : Option Addr} {c1 : Nat}
    (hG : Gs H lo 47 9 A1 c1 (t.enc 0).length ((t.enc 0).flatMap Is)) (hoff : ob A1 ≠ ob A ∧ ob A1 ≠ sb) (hdis : ∀ x ∈ Bs, x.nodes.length = 0 ∨ ob A1 ≠ ob x.A) :
    Ret Try.prog 104 [ptr sb 0, I v, Ty A1 (t.enc 0).length c1] H (StpP H lo sb A (bindU s v t)) := by
  have h9 := t.enc_nine 0 ht
  have hln := t.enc_len 0
  have hS := own_sl (wide9 h9) (by decide) hG
  refine Ret.of_at (N := 20) Try.call104 Try.func104 rfl rfl rfl ?_
  have hE := Ext.refl H
  have z_hE := hE.lt
  have z_hs := hs.lt
  refine At.region rfl rfl ?_
  refine Reg.op rfl rfl rfl rfl (Does.box rfl rfl) ?_
  rintro _ H0_0 ⟨rfl, hn0_0⟩
  have z0_0 := hn0_0.size
  replace hE := hE.ext hn0_0.ext
  replace hs := hs.ext hn0_0.ext
  have o0_0 := hn0_0.own
  refine Reg.op rfl rfl rfl rfl (Does.box rfl rfl) ?_
  rintro _ H0_1 ⟨rfl, hn0_1⟩
  have z0_1 := hn0_1.size
  replace hE := hE.ext hn0_1.ext
  replace hs := hs.ext hn0_1.ext
  replace o0_0 := o0_0.ext hn0_1.ext
  have o0_1 := hn0_1.own
  refine Reg.pur rfl rfl rfl rfl (Pur.asg rfl) ?_
  refine Reg.nil ?_
  refine At.region rfl rfl ?_
  refine Reg.pur rfl rfl rfl rfl (Pur.fld _ fo25_0 rfl) ?_
  refine Reg.lod rfl rfl rfl rfl (Lod.ld sc23 rfl o0_1.blk (by first | rfl | (simp; done))) ?_
  refine Reg.pur rfl rfl rfl rfl (Pur.mkf rfl rfl) ?_
  refine Reg.op rfl rfl rfl rfl (Does.call rfl (containsFuncN_ok h9 (hS.ext hE) (by omega) 128 (pVar v) (fun H' x hx hE' ↦ varF_ok (h9 x hx) (o0_0.blk.ext hE')))) ?_
  rintro _ H1_3 ⟨rfl, hE1_3⟩
  have z1_3 := hE1_3.lt
  replace hE := hE.ext hE1_3
  replace hs := hs.ext hE1_3
  replace o0_0 := o0_0.ext hE1_3
  replace o0_1 := o0_1.ext hE1_3
  refine Reg.nil ?_
  refine At.cond rfl rfl (fun q10 => ?_) (fun q10 => ?_)
  · first | (simp only [decide_eq_true_eq, decide_eq_false_iff_not, Bool.not_eq_true', Bool.not_eq_false', ne_eq, Decidable.not_not, Bool.not_eq_true, Bool.not_eq_false] at q10) | (dsimp only at q10) | skip
    refine At.region rfl rfl ?_
    refine Reg.pur rfl rfl rfl rfl (Pur.mki (by kernel_rfl) rfl) ?_
    refine Reg.pur rfl rfl rfl rfl (Pur.bld (cs := [_, _]) pl166 zc166 rfl rfl ⟨rfl, rfl, rfl⟩) ?_
    refine Reg.op rfl rfl rfl rfl (Does.box rfl rfl) ?_
    rintro _ H2_2 ⟨rfl, hn2_2⟩
    have z2_2 := hn2_2.size
    replace hE := hE.ext hn2_2.ext
    replace hs := hs.ext hn2_2.ext
    replace o0_0 := o0_0.ext hn2_2.ext
    replace o0_1 := o0_1.ext hn2_2.ext
    have o2_2 := hn2_2.own
    refine Reg.pur rfl rfl rfl rfl (Pur.mki (by kernel_rfl) rfl) ?_
    refine Reg.pur rfl rfl rfl rfl (Pur.asg rfl) ?_
    refine Reg.nil ?_
    refine At.ret rfl Try.func104 rfl ?_
    have ho : occ v t = true := by rw [← any_var v t 0]; exact q10
    have hb : bindU s v t = .error 1002 := by unfold bindU; rw [if_pos ho]
    rw [hb]
    exact ⟨⟨_, _, _, rfl, o2_2.blk, .inl rfl⟩, .inr (.inl rfl), hE.but⟩
  first | (simp only [decide_eq_true_eq, decide_eq_false_iff_not, Bool.not_eq_true', Bool.not_eq_false', ne_eq, Decidable.not_not, Bool.not_eq_true, Bool.not_eq_false] at q10) | (dsimp only at q10) | skip
  have ho : ¬ occ v t = true := by rw [← any_var v t 0, q10]; decide
  have hbe : Bes H1_3 lo sb A Bs ⟨v, false, A1, c1, t.enc 0, noRow⟩ (.t v t) := ⟨rfl, ⟨ht, hz⟩, ⟨hS.ext hE, h9, rfl, by dsimp only; omega⟩, (hG.ext hE).gw, .inr hoff, fun x hx => (hdis x hx).elim (fun e => .inr (.inl e)) (fun e => .inr (.inr e))⟩
  refine At.region rfl rfl ?_
  refine Reg.pur rfl rfl rfl rfl (Pur.mv rfl) ?_
  refine Reg.lod rfl rfl rfl rfl (Lod.ld sc3 rfl o0_0.blk (by first | rfl | (simp; done))) ?_
  refine Reg.lod rfl rfl rfl rfl (Lod.ldn ag25 rfl o0_1.blk (by first | exact whole rfl | rfl | (simp only [List.drop_succ_cons, List.drop_zero, List.take_succ_cons, List.take_zero]; rfl)) (by first | rfl | (simp [*]; done))) ?_
  refine Reg.pur rfl rfl rfl rfl (Pur.bld (cs := [_, _, _, _, _, _, _, _]) pl49 zc49 rfl rfl ⟨rfl, rfl, rfl, rfl, rfl, rfl, rfl, rfl, rfl⟩) ?_
  refine Reg.op rfl rfl rfl rfl (Does.call rfl (add_ok (h.ext hE) hs hbe hl)) ?_
  rintro v3_4 H3_4 hP
  refine Reg.pur rfl rfl rfl rfl (Pur.asg rfl) ?_
  refine Reg.nil ?_
  refine At.ret rfl Try.func104 rfl ?_
  exact stp_add ho hE h.lo hP
end Go.Proofs.Ytlfillhffpiffaa

namespace Go.Proofs.Ytlfillhffpiffaa
set_option linter.unusedSimpArgs false
set_option linter.unusedVariables false
set_option maxRecDepth 8000
open Go Go.Fx Go.Proofs

def adR (r s : List Int) : List Int := [r.getD 0 0 + s.getD 0 0, r.getD 1 0 + s.getD 1 0, r.getD 2 0 + s.getD 2 0, r.getD 3 0 + s.getD 3 0, s.getD 4 0]
theorem adR_tail (r s : List Int) : (adR r s).getD 4 0 = s.getD 4 0 := rfl
theorem adR_assoc (r s u : List Int) : adR (adR r s) u = adR r (adR s u) := by
  unfold adR
  simp only [List.getD_cons_zero, List.getD_cons_succ, Int.add_assoc]
theorem adR_z {r : List Int} (h : r.length = 5) : adR r [0, 0, 0, 0, r.getD 4 0] = r := by
  obtain ⟨a, b, c, d, e, rfl⟩ := row_five h
  simp [adR]
theorem sumR_ad {r s : List Int} (hr : r.length = 5) (hrm : rowM r = true) (hs : s.length = 5) (hsm : rowM s = true) : sumR r s = adR r s := by
  have f := fun i (hi : i < 4) => rowM_all hrm hi hr
  have g := fun i (hi : i < 4) => rowM_all hsm hi hs
  have f0 := f 0 (by decide); have f1 := f 1 (by decide); have f2 := f 2 (by decide); have f3 := f 3 (by decide)
  have g0 := g 0 (by decide); have g1 := g 1 (by decide); have g2 := g 2 (by decide); have g3 := g 3 (by decide)
  show [IntKind.i64.wrap (r.getD 0 0 + s.getD 0 0), IntKind.i64.wrap (r.getD 1 0 + s.getD 1 0), IntKind.i64.wrap (r.getD 2 0 + s.getD 2 0), IntKind.i64.wrap (r.getD 3 0 + s.getD 3 0), s.getD 4 0] = _
  rw [wrap_in (by omega), wrap_in (by omega), wrap_in (by omega), wrap_in (by omega)]
  rfl

structure Asg where
  T : Int → Tm
  R : Int → List Int
def Asg.row (θ : Asg) (r : List Int) : List Int := if r.getD 4 0 < 0 then r else adR r (θ.R (r.getD 4 0))
def Asg.tm (θ : Asg) : Tm → Tm
  | .bas k => .bas k
  | .var v => θ.T v
  | .fn a r b => .fn (θ.tm a) (θ.row r) (θ.tm b)
theorem Asg.row_no {θ : Asg} {r : List Int} (h : r.getD 4 0 < 0) : θ.row r = r := if_pos h
theorem Asg.row_yes {θ : Asg} {r : List Int} (h : ¬ r.getD 4 0 < 0) : θ.row r = adR r (θ.R (r.getD 4 0)) := if_neg h
theorem Asg.row_ad (θ : Asg) (r s : List Int) : θ.row (adR r s) = adR r (θ.row s) := by
  by_cases h : s.getD 4 0 < 0
  · rw [Asg.row_no (r := s) h, Asg.row_no (by rw [adR_tail]; exact h)]
  · rw [Asg.row_yes (r := s) h, Asg.row_yes (by rw [adR_tail]; exact h), adR_tail, adR_assoc]
def asg (l : List Bt) : Asg := ⟨fun v => match findT l v with | some u => u | none => .var v, fun v => match findR l v with | some s => s | none => [0, 0, 0, 0, v]⟩
theorem rw_asg {l : List Bt} (hl : ∀ b ∈ l, b.ok) {r u : List Int} (hr : r.length = 5) (hrm : rowM r = true) (h : rwS l r = some u) : (asg l).row r = u := by
  unfold rwS at h
  by_cases h0 : r.getD 4 0 < 0
  · rw [if_pos h0] at h; cases h; exact Asg.row_no h0
  · rw [if_neg h0] at h
    rw [Asg.row_yes h0]
    cases hf : findR l (r.getD 4 0) with
    | none =>
      rw [hf] at h; cases h
      have : (asg l).R (r.getD 4 0) = [0, 0, 0, 0, r.getD 4 0] := by unfold asg; dsimp only; rw [hf]
      rw [this]; exact adR_z hr
    | some s =>
      rw [hf] at h
      dsimp only at h
      split at h
      · cases h
        have : (asg l).R (r.getD 4 0) = s := by unfold asg; dsimp only; rw [hf]
        have hs := hl _ (findR_some hf)
        rw [this, sumR_ad hr hrm hs.1 hs.2]
      · cases h
theorem sub_asg {l : List Bt} (hl : ∀ b ∈ l, b.ok) : ∀ {t u : Tm}, t.ok → sub l t = some u → (asg l).tm t = u
  | .bas k, u, _, h => by cases h; rfl
  | .var w, u, ht, h => by
    simp only [sub] at h
    show (match findT l w with | some u => u | none => Tm.var w) = u
    cases hf : findT l w with
    | none => rw [hf] at h; cases h; rfl
    | some x => rw [hf] at h; cases h; rfl
  | .fn a r b, u, ht, h => by
    obtain ⟨a', r', b', h1, h2, h3, rfl⟩ := sub_fn h
    simp only [Asg.tm]
    rw [sub_asg hl ht.1 h1, rw_asg hl ht.2.1 ht.2.2.1 h2, sub_asg hl ht.2.2.2 h3]

def Bt.resp (θ : Asg) : Bt → Prop
  | .t v u => θ.T v = θ.tm u
  | .r v s => θ.R v = θ.row s
def Resp (θ : Asg) (l : List Bt) : Prop := ∀ b ∈ l, b.resp θ
theorem resp_cons {θ : Asg} {b : Bt} {l : List Bt} : Resp θ (b :: l) ↔ b.resp θ ∧ Resp θ l := by
  unfold Resp; simp
theorem resp_nil (θ : Asg) : Resp θ [] := fun b h => by cases h
theorem row_resp {θ : Asg} {l : List Bt} (h : Resp θ l) {r : List Int} (hr : r.length = 5) : θ.row ((asg l).row r) = θ.row r := by
  by_cases h0 : r.getD 4 0 < 0
  · rw [Asg.row_no (θ := asg l) h0]
  · rw [Asg.row_yes (θ := asg l) h0]
    cases hf : findR l (r.getD 4 0) with
    | none =>
      have : (asg l).R (r.getD 4 0) = [0, 0, 0, 0, r.getD 4 0] := by unfold asg; dsimp only; rw [hf]
      rw [this, adR_z hr]
    | some s =>
      have h1 : (asg l).R (r.getD 4 0) = s := by unfold asg; dsimp only; rw [hf]
      have h2 : θ.R (r.getD 4 0) = θ.row s := h _ (findR_some hf)
      rw [h1, Asg.row_ad, Asg.row_yes h0, h2]
theorem tm_resp {θ : Asg} {l : List Bt} (h : Resp θ l) : ∀ {t : Tm}, t.ok → θ.tm ((asg l).tm t) = θ.tm t
  | .bas k, _ => rfl
  | .var w, _ => by
    show θ.tm (match findT l w with | some u => u | none => Tm.var w) = θ.T w
    cases hf : findT l w with
    | none => rfl
    | some x => exact (h _ (find_some hf)).symm
  | .fn a r b, ht => by
    simp only [Asg.tm]
    rw [tm_resp h ht.1, row_resp h ht.2.1, tm_resp h ht.2.2.2]
theorem tys_resp {θ : Asg} {l : List Bt} (hl : ∀ b ∈ l, b.ok) (h : Resp θ l) {t u : Tm} (ht : t.ok) (hu : tys l t = some u) : θ.tm u = θ.tm t := by
  rw [← sub_asg hl ht (tys_sub hu).1, tm_resp h ht]
theorem rw_resp {θ : Asg} {l : List Bt} (hl : ∀ b ∈ l, b.ok) (h : Resp θ l) {r u : List Int} (hr : r.length = 5) (hrm : rowM r = true) (hu : rwS l r = some u) : θ.row u = θ.row r := by
  rw [← rw_asg hl hr hrm hu, row_resp h hr]
theorem resp_one {θ : Asg} {b : Bt} (h : b.resp θ) : Resp θ [b] := resp_cons.2 ⟨h, resp_nil θ⟩
theorem resp_add {θ : Asg} {b : Bt} (hb : b.ok) : ∀ {l m : List Bt}, (∀ c ∈ l, c.ok) → addB b l = some m → (Resp θ m ↔ Resp θ l ∧ b.resp θ)
  | [], m, _, h => by
    cases h
    rw [resp_cons]
    exact ⟨fun h => ⟨resp_nil θ, h.1⟩, fun h => ⟨h.2, resp_nil θ⟩⟩
  | c :: l, m, hl, h => by
    obtain ⟨c', l', h1, h2, rfl⟩ := addB_cons h
    have ih := resp_add (θ := θ) hb (fun x hx => hl x (List.mem_cons_of_mem _ hx)) h2
    have hc := hl c List.mem_cons_self
    have hb1 : ∀ x ∈ [b], x.ok := fun x hx => by rw [List.mem_singleton.1 hx]; exact hb
    have key : b.resp θ → (c'.resp θ ↔ c.resp θ) := by
      intro hr
      cases c with
      | t v u =>
        obtain ⟨u', hu, rfl⟩ := sub1_T h1
        have := tys_resp hb1 (resp_one hr) hc.1 hu
        show θ.T v = θ.tm u' ↔ θ.T v = θ.tm u
        rw [this]
      | r v s =>
        obtain ⟨s', hs, rfl⟩ := sub1_R h1
        have := rw_resp hb1 (resp_one hr) hc.1 hc.2 hs
        show θ.R v = θ.row s' ↔ θ.R v = θ.row s
        rw [this]
    rw [resp_cons, resp_cons, ih]
    constructor
    · rintro ⟨k1, k2, k3⟩; exact ⟨⟨(key k3).1 k1, k2⟩, k3⟩
    · rintro ⟨⟨k1, k2⟩, k3⟩; exact ⟨(key k3).2 k1, k2, k3⟩
theorem addB_ok {b : Bt} (hb : b.ok) {l m : List Bt} (hl : ∀ c ∈ l, c.ok) (h : addB b l = some m) : ∀ c ∈ m, c.ok := by
  intro c hc
  rcases addB_mem h c hc with rfl | ⟨d, hd, hs⟩
  · exact hb
  · exact sub1_ok hb (hl d hd) hs
theorem resp_all {θ : Asg} : ∀ {bs l m : List Bt}, (∀ b ∈ bs, b.ok) → (∀ c ∈ l, c.ok) → addAll bs l = some m → (Resp θ m ↔ Resp θ l ∧ Resp θ bs)
  | [], l, m, _, _, h => by cases h; exact ⟨fun h => ⟨h, resp_nil θ⟩, fun h => h.1⟩
  | b :: bs, l, m, hb, hl, h => by
    simp only [addAll] at h
    cases ha : addB b l with
    | none => rw [ha] at h; cases h
    | some l' =>
      rw [ha] at h
      have hb0 := hb b List.mem_cons_self
      rw [resp_all (fun x hx => hb x (List.mem_cons_of_mem _ hx)) (addB_ok hb0 hl ha) h, resp_add hb0 hl ha, resp_cons]
      exact ⟨fun ⟨⟨h1, h2⟩, h3⟩ => ⟨h1, h2, h3⟩, fun ⟨h1, h2, h3⟩ => ⟨⟨h1, h2⟩, h3⟩⟩
theorem bindU_iff {θ : Asg} {s s' : Us} {v : Int} {t : Tm} (hs : ∀ b ∈ s.1, b.ok) (ht : t.ok) (hz : t.sz ≤ 256) (e : bindU s v t = .ok s') : Resp θ s'.1 ↔ Resp θ s.1 ∧ θ.T v = θ.tm t := by
  unfold bindU at e
  split at e
  · cases e
  · cases ha : addB (.t v t) s.1 with
    | none => rw [ha] at e; cases e
    | some l =>
      rw [ha] at e; cases e
      exact resp_add (b := .t v t) ⟨ht, hz⟩ hs ha
theorem leafU_iff {θ : Asg} {s s' : Us} {p q : Tm} (hs : ∀ b ∈ s.1, b.ok) (hp : p.ok) (hq : q.ok) (hpz : p.sz ≤ 256) (hqz : q.sz ≤ 256) (e : leafU s p q = .ok s') : Resp θ s'.1 ↔ Resp θ s.1 ∧ θ.tm p = θ.tm q := by
  cases p with
  | var v =>
    cases q with
    | var w =>
      simp only [leafU] at e
      split at e
      · rename_i h; cases e; subst h; exact ⟨fun h => ⟨h, rfl⟩, fun h => h.1⟩
      · exact bindU_iff hs hq hqz e
    | bas k => exact bindU_iff hs hq hqz e
    | fn a r b => exact bindU_iff hs hq hqz e
  | bas k =>
    cases q with
    | var w => rw [bindU_iff hs hp hpz e]; exact ⟨fun h => ⟨h.1, h.2.symm⟩, fun h => ⟨h.1, h.2.symm⟩⟩
    | bas l =>
      simp only [leafU] at e
      split at e
      · rename_i h; cases e; subst h; exact ⟨fun h => ⟨h, rfl⟩, fun h => h.1⟩
      · cases e
    | fn a r b => cases e
  | fn a r b =>
    cases q with
    | var w => rw [bindU_iff hs hp hpz e]; exact ⟨fun h => ⟨h.1, h.2.symm⟩, fun h => ⟨h.1, h.2.symm⟩⟩
    | bas l => cases e
    | fn a r b => cases e

theorem more_no {a b : List Int} (h : moreC a b = false) : ∀ i, i < 4 → a.getD i 0 ≤ b.getD i 0 := by
  intro i hi
  unfold moreC moreTo at h
  have := (List.any_eq_false.1 h) i (List.mem_range.2 hi)
  simp only [decide_eq_true_eq] at this
  omega
theorem more_yes {a b : List Int} (h : moreC a b = true) : ∃ i, i < 4 ∧ b.getD i 0 < a.getD i 0 := by
  unfold moreC moreTo at h
  obtain ⟨i, hi, h⟩ := List.any_eq_true.1 h
  exact ⟨i, List.mem_range.1 hi, of_decide_eq_true h⟩
def mxR (a b : List Int) (t : Int) : List Int := [max (a.getD 0 0) (b.getD 0 0), max (a.getD 1 0) (b.getD 1 0), max (a.getD 2 0) (b.getD 2 0), max (a.getD 3 0) (b.getD 3 0), t]
theorem mxR_comm (a b : List Int) (t : Int) : mxR a b t = mxR b a t := by unfold mxR; rw [Int.max_comm, Int.max_comm (a.getD 1 0), Int.max_comm (a.getD 2 0), Int.max_comm (a.getD 3 0)]
theorem sb1_add (a b : List Int) (i : Nat) : a.getD i 0 + sb1 b a i = max (a.getD i 0) (b.getD i 0) := by unfold sb1; split <;> omega
theorem subC_eq (a b : List Int) (t : Int) : subC a b ++ [t] = [sb1 a b 0, sb1 a b 1, sb1 a b 2, sb1 a b 3, t] := rfl
theorem ad_sub (a b : List Int) (t : Int) : adR a (subC b a ++ [t]) = mxR a b t := by
  rw [subC_eq]
  unfold adR mxR
  simp only [List.getD_cons_zero, List.getD_cons_succ, sb1_add]
theorem mx_le {a b : List Int} (hb : b.length = 5) (h : moreC a b = false) : mxR a b (b.getD 4 0) = b := by
  have h0 := more_no h 0 (by decide); have h1 := more_no h 1 (by decide); have h2 := more_no h 2 (by decide); have h3 := more_no h 3 (by decide)
  obtain ⟨p, q, r, s, t, rfl⟩ := row_five hb
  simp only [List.getD_cons_zero, List.getD_cons_succ] at h0 h1 h2 h3
  unfold mxR
  simp only [List.getD_cons_zero, List.getD_cons_succ, Int.max_eq_right h0, Int.max_eq_right h1, Int.max_eq_right h2, Int.max_eq_right h3]
theorem eq_five {a b : List Int} (ha : a.length = 5) (hb : b.length = 5) (h : ∀ i, i < 4 → a.getD i 0 = b.getD i 0) (ht : a.getD 4 0 = b.getD 4 0) : a = b := by
  have h0 := h 0 (by decide); have h1 := h 1 (by decide); have h2 := h 2 (by decide); have h3 := h 3 (by decide)
  obtain ⟨p, q, r, s, t, rfl⟩ := row_five ha
  obtain ⟨p', q', r', s', t', rfl⟩ := row_five hb
  simp only [List.getD_cons_zero, List.getD_cons_succ] at h0 h1 h2 h3 ht
  subst h0 h1 h2 h3 ht
  rfl
theorem row_bind {θ : Asg} {a s : List Int} (ha : ¬ a.getD 4 0 < 0) (h : θ.R (a.getD 4 0) = θ.row s) : θ.row a = θ.row (adR a s) := by
  rw [Asg.row_yes ha, h, Asg.row_ad]
theorem uniR_snd {θ : Asg} {a b : List Int} {f : Int} (ha : a.length = 5) (hb : b.length = 5) (h : (uniR a b f).2 = 0) (hr : ∀ x ∈ (uniR a b f).1, (bt x).resp θ) : θ.row a = θ.row b := by
  unfold uniR at h hr
  split at h
  case isFalse => simp at h
  rename_i hc
  rw [if_pos hc] at hr
  have ta := rowM_t hc.1
  have tb := rowM_t hc.2.1
  unfold uniQ at h hr
  by_cases e1 : a.getD 4 0 = b.getD 4 0
  · rw [if_pos e1] at h
    split at h
    · simp at h
    · rename_i hm
      simp only [not_or, Bool.not_eq_true] at hm
      rw [eq_five ha hb (fun i hi => by have := more_no hm.1 i hi; have := more_no hm.2 i hi; omega) e1]
  · rw [if_neg e1] at h hr
    split at h
    · simp at h
    · rename_i hm
      rw [if_neg hm] at hr
      simp only [not_or, not_and] at hm
      by_cases e2 : b.getD 4 0 = -1
      · rw [if_pos e2] at hr
        have h1 : θ.R (a.getD 4 0) = θ.row (subC b a ++ [-1]) := hr _ List.mem_cons_self
        rw [row_bind (by omega) h1, ad_sub]
        have := mx_le hb (by simpa using fun h => hm.1 h e2)
        rw [e2] at this; rw [this]
      · rw [if_neg e2] at hr
        by_cases e3 : a.getD 4 0 = -1
        · rw [if_pos e3] at hr
          have h1 : θ.R (b.getD 4 0) = θ.row (subC a b ++ [-1]) := hr _ List.mem_cons_self
          rw [row_bind (a := b) (by omega) h1, ad_sub]
          have := mx_le ha (by simpa using fun h => hm.2 h e3)
          rw [e3] at this; rw [this]
        · rw [if_neg e3] at hr
          by_cases e4 : moreC a b = false
          · rw [if_pos e4] at hr
            have h1 : θ.R (a.getD 4 0) = θ.row (subC b a ++ [b.getD 4 0]) := hr _ List.mem_cons_self
            rw [row_bind (by omega) h1, ad_sub, mx_le hb e4]
          · rw [if_neg e4] at hr
            by_cases e5 : moreC b a = false
            · rw [if_pos e5] at hr
              have h1 : θ.R (b.getD 4 0) = θ.row (subC a b ++ [a.getD 4 0]) := hr _ List.mem_cons_self
              rw [row_bind (a := b) (by omega) h1, ad_sub, mx_le ha e5]
            · rw [if_neg e5] at hr
              have h1 : θ.R (a.getD 4 0) = θ.row (subC b a ++ [f]) := hr _ List.mem_cons_self
              have h2 : θ.R (b.getD 4 0) = θ.row (subC a b ++ [f]) := hr _ (List.mem_cons_of_mem _ List.mem_cons_self)
              rw [row_bind (by omega) h1, row_bind (a := b) (by omega) h2, ad_sub, ad_sub, mxR_comm]
theorem uniR_bts {a b : List Int} {f : Int} (ha : a.length = 5) (hb : b.length = 5) (hf : f < 4096) (h : (uniR a b f).2 = 0) : ∀ x ∈ (uniR a b f).1.map bt, x.ok := by
  obtain ⟨r1, r2, r3⟩ := uniR_shape hf h
  intro x hx
  obtain ⟨y, hy, rfl⟩ := List.mem_map.1 hx
  obtain ⟨v, t, rfl, c, z, rfl, hcc, hz⟩ := r3 y hy
  have hl4 : c.length = 4 := by rcases hcc with rfl | rfl <;> rfl
  have hcm : ∀ x ∈ c, okc x = true := by
    rcases hcc with rfl | rfl
    · exact subC_ok ha hb r1 r2
    · exact subC_ok hb ha r2 r1
  exact rowM_mk hl4 hcm hz.1 hz.2
theorem rowsU_ok {s s' : Us} {a b : List Int} (e : rowsU s a b = .ok s') : ∃ a' b' l, rwS s.1 a = some a' ∧ rwS s.1 b = some b' ∧ s.2 < 4096 ∧ (uniR a' b' s.2).2 = 0 ∧ addAll ((uniR a' b' s.2).1.map bt) s.1 = some l ∧ s' = (l, s.2 + ((uniR a' b' s.2).1.length / 2 : Nat)) := by
  unfold rowsU at e
  cases h1 : rwS s.1 a with
  | none => rw [h1] at e; cases e
  | some a' =>
    cases h2 : rwS s.1 b with
    | none => rw [h1, h2] at e; cases e
    | some b' =>
      rw [h1, h2] at e
      dsimp only at e
      split at e
      · cases e
      · rename_i hf
        split at e
        · cases e
        · rename_i hc
          cases h3 : addAll ((uniR a' b' s.2).1.map bt) s.1 with
          | none => rw [h3] at e; cases e
          | some m =>
            rw [h3] at e
            cases e
            exact ⟨a', b', m, rfl, rfl, by omega, by simpa using hc, h3, rfl⟩
theorem rowsU_snd {θ : Asg} {s s' : Us} {a b : List Int} (hs : ∀ b ∈ s.1, b.ok) (ha5 : a.length = 5) (ha : rowM a = true) (hb5 : b.length = 5) (hb : rowM b = true) (e : rowsU s a b = .ok s') (h : Resp θ s'.1) : Resp θ s.1 ∧ θ.row a = θ.row b := by
  obtain ⟨a', b', l, h1, h2, hf, hc, h3, rfl⟩ := rowsU_ok e
  have ha' := rw_ok hs ha5 ha h1
  have hb' := rw_ok hs hb5 hb h2
  have hiff := (resp_all (θ := θ) (uniR_bts ha'.1 hb'.1 hf hc) hs h3).1 h
  refine ⟨hiff.1, ?_⟩
  rw [← rw_resp hs hiff.1 ha5 ha h1, ← rw_resp hs hiff.1 hb5 hb h2]
  exact uniR_snd ha'.1 hb'.1 hc (fun x hx => hiff.2 _ (List.mem_map.2 ⟨x, hx, rfl⟩))
theorem uniU_snd : ∀ (n : Nat) {θ : Asg} {s s' : Us} {a b : Tm}, Inv s.1 → a.ok → b.ok → uniU n s a b = some (.ok s') → (Inv s'.1 ∧ (Resp θ s'.1 → Resp θ s.1 ∧ θ.tm a = θ.tm b))
  | 0, _, _, _, _, _, _, _, _, h => by cases h
  | n + 1, θ, s, s', a, b, hI, ha, hb, h => by
    cases h1 : tys s.1 a with
    | none => rw [uniU_bad (.inl h1)] at h; cases h
    | some p =>
      cases h2 : tys s.1 b with
      | none => rw [uniU_bad (.inr h2)] at h; cases h
      | some q =>
        obtain ⟨hsp, hpz⟩ := tys_sub h1
        obtain ⟨hsq, hqz⟩ := tys_sub h2
        have hpo := sub_ok hI.ok ha hsp
        have hqo := sub_ok hI.ok hb hsq
        have hpf : ∀ w ∈ domT s.1, occ w p = false := fun w hw => hI.free hsp hw
        have hqf : ∀ w ∈ domT s.1, occ w q = false := fun w hw => hI.free hsq hw
        cases hf : isFn p && isFn q with
        | false =>
          rw [uniU_leaf h1 h2 hf] at h
          have e : leafU s p q = .ok s' := by simpa using h
          refine ⟨(leafU_inv hI hpo hqo hpz hqz hpf hqf e).1, fun hr => ?_⟩
          obtain ⟨k1, k2⟩ := (leafU_iff hI.ok hpo hqo hpz hqz e).1 hr
          exact ⟨k1, by rw [← tys_resp hI.ok k1 ha h1, ← tys_resp hI.ok k1 hb h2, k2]⟩
        | true =>
          cases p with
          | var v => cases hf
          | bas k => cases hf
          | fn f r g =>
            cases q with
            | var v => cases hf
            | bas k => cases hf
            | fn h' r' i =>
              rw [uniU_fn h1 h2] at h
              cases hu : uniU n s f h' with
              | none => rw [hu] at h; cases h
              | some x =>
                rw [hu] at h
                cases x with
                | error c => cases h
                | ok s1 =>
                  dsimp only at h
                  have g1 := uniU_snd n (θ := θ) hI hpo.1 hqo.1 hu
                  cases hr : rowsU s1 r r' with
                  | error c => rw [hr] at h; cases h
                  | ok s2 =>
                    rw [hr] at h
                    dsimp only at h
                    have g2 := rowsU_inv g1.1 hpo.2.1 hpo.2.2.1 hqo.2.1 hqo.2.2.1 hr
                    have g3 := uniU_snd n (θ := θ) g2.1 hpo.2.2.2 hqo.2.2.2 h
                    refine ⟨g3.1, fun hR => ?_⟩
                    obtain ⟨k1, k2⟩ := g3.2 hR
                    obtain ⟨k3, k4⟩ := rowsU_snd g1.1.ok hpo.2.1 hpo.2.2.1 hqo.2.1 hqo.2.2.1 hr k1
                    obtain ⟨k5, k6⟩ := g1.2 k3
                    refine ⟨k5, ?_⟩
                    rw [← tys_resp hI.ok k5 ha h1, ← tys_resp hI.ok k5 hb h2]
                    simp only [Asg.tm]
                    rw [k2, k4, k6]
end Go.Proofs.Ytlfillhffpiffaa

namespace Go.Fx
open Go
theorem Pur.half {P : Program} {dst : Option Tmp} {ty : TypeId} {pos : String} {aft : Array Edge} {gd : Option (Nat × Bool)} {e : Env} {x y : Operand} {t t' : TypeId} {n : Nat} (hx : ev e x = some (.int .i64 (n : Int))) (hy : ev e y = some (.int .i64 2)) (hn : n ≤ 1000000) :
    Pur P ⟨dst, .binOp .quo t x y t', ty, pos, aft, gd⟩ e (.int .i64 ((n / 2 : Nat) : Int)) := by
  have h := Pur.quo (P := P) (dst := dst) (ty := ty) (pos := pos) (aft := aft) (gd := gd) (t := t) (t' := t') hx hy (by decide)
  have e1 : ((n : Int).tdiv 2) = ((n / 2 : Nat) : Int) := by simp
  rw [e1, wrap_in (by omega)] at h
  exact h
end Go.Fx
namespace Go.Proofs.Ytlfillhffpiffaa
set_option linter.unusedSimpArgs false
set_option linter.unusedVariables false
set_option maxRecDepth 8000
open Go Go.Fx Go.Proofs
namespace FactsUniL
theorem ag28 : ag Try.prog 28 = some 5 := by kernel_rfl
theorem ag49 : ag Try.prog 49 = some 8 := by kernel_rfl
theorem es22 : esz Try.prog 22 = some 8 := by kernel_rfl
theorem fo122_1 : foff Try.prog 122 1 = some 1 := by kernel_rfl
theorem isl22 : isSl Try.prog 22 = true := by kernel_rfl
theorem mixed : Try.prog.follows .mixedOrders = true := by kernel_rfl
theorem pl166 : places Try.prog 166 = some [(0, 1), (1, 1)] := by kernel_rfl
theorem sc3 : sc Try.prog 3 = true := by kernel_rfl
theorem sl1_194 : sl1 Try.prog 194 = true := by kernel_rfl
theorem zc166 : zc Try.prog 166 = some [.string ⟨#[]⟩, .nilIface] := by kernel_rfl
theorem zc49 : zc Try.prog 49 = some [.int .i64 0, .bool false, .slice none 0 0, .int .i64 0, .int .i64 0, .int .i64 0, .int .i64 0, .int .i64 0] := by kernel_rfl
end FactsUniL
open FactsUniL

theorem uniR_code {a b : List Int} {f : Int} (h : (uniR a b f).2 ≠ 0) : (uniR a b f).2 = 800 ∨ (uniR a b f).2 = 801 := by
  revert h
  unfold uniR
  split
  · unfold uniQ
    repeat' split
    all_goals simp
  · simp
theorem uniR_mem {a b : List Int} {f : Int} (ha : a.length = 5) (hb : b.length = 5) (hf : f < 4096) (h : (uniR a b f).2 = 0) : (uniR a b f).1.length ≤ 2 ∧ ∀ x ∈ (uniR a b f).1, ∃ v r, x = bR v r ∧ r.length = 5 ∧ (bt x).ok := by
  refine ⟨?_, fun x hx => ?_⟩
  · rcases (uniR_cases h).2.2 with e | ⟨v, s, e, _⟩ | ⟨s, s', e, _⟩ <;> rw [e] <;> simp
  · have h1 := uniR_bts ha hb hf h _ (List.mem_map.2 ⟨x, hx, rfl⟩)
    obtain ⟨_, _, r3⟩ := uniR_shape hf h
    obtain ⟨v, t, rfl, c, z, rfl, hcc, hz⟩ := r3 x hx
    exact ⟨v, _, rfl, h1.1, h1⟩
theorem ones_enc (b : Bd) : ones (encB b) = true := by
  simp [ones, Value.oneCell', Is]
theorem addB_length {b : Bt} : ∀ {l m : List Bt}, addB b l = some m → m.length = l.length + 1
  | [], m, h => by cases h; rfl
  | c :: l, m, h => by
    obtain ⟨c', l', h1, h2, rfl⟩ := addB_cons h
    simp only [List.length_cons, addB_length h2]
theorem addAll_drop {L : List Bd} {i : Nat} (hi : i < L.length) (l : List Bt) : addAll ((L.drop i).map bt) l = match addB (bt L[i]) l with | some l' => addAll ((L.drop (i + 1)).map bt) l' | none => none := by
  rw [List.drop_eq_getElem_cons hi, List.map_cons]; rfl
theorem bes_row {H : Heap} {lo sb : Nat} {A : Option Addr} {Bs : List Bd} {v : Int} {r : List Int} (hr : r.length = 5) (hb : (bt (bR v r)).ok) : Bes H lo sb A Bs (bR v r) (bt (bR v r)) :=
  ⟨rfl, hb, bR_ok v r hr H, Gw.nil, .inl rfl, fun x hx => .inl rfl⟩
theorem AddP.ne {H H' : Heap} {lo sb : Nat} {A : Option Addr} {f : Int} {o : Option (List Bt)} {v : Value} (h : AddP H lo sb A f o v H') : ∀ {dst ty pos aft gd} {e : Env} {x y : Operand} {t' : TypeId} (_ : ev e x = some v) (_ : isK y = true) (_ : ev e y = some .nilIface), Pur Try.prog ⟨dst, .binOp .neq 107 x y t', ty, pos, aft, gd⟩ e (.bool (!o.isSome)) := by
  intro dst ty pos aft gd e x y t' hx hk hy
  cases o with
  | some l => obtain ⟨rfl, _⟩ := h; exact Pur.neNN isIf_err hx hk hy
  | none => obtain ⟨⟨_, _, _, rfl, _⟩, _⟩ := h; exact Pur.neNil isIf_err hx hy
theorem rows_ok {H : Heap} {lo sb cap : Nat} {A : Option Addr} {Bs : List Bd} {s : Us} (h : Slv H lo sb A cap Bs s.1) (hs : Own H sb [.slice A Bs.length cap, I s.2]) (hl : Bs.length < 90000) {a b : List Int} (ha5 : a.length = 5) (ha : rowM a = true) (hb5 : b.length = 5) (hb : rowM b = true) (hf : 0 ≤ s.2 ∧ s.2 ≤ 4096) :
    Ret Try.prog 106 [ptr sb 0, .agg (Is a).toArray, .agg (Is b).toArray] H (StpP H lo sb A (rowsU s a b)) := by
  have hra0 : ∀ u, rwS s.1 a = some u → u.length = 5 ∧ rowM u = true := fun u hu => rw_ok h.tok ha5 ha hu
  have hrb0 : ∀ u, rwS s.1 b = some u → u.length = 5 ∧ rowM u = true := fun u hu => rw_ok h.tok hb5 hb hu
  obtain ⟨p0, p1, p2, p3, p4, rfl⟩ := row_five ha5
  obtain ⟨q0, q1, q2, q3, q4, rfl⟩ := row_five hb5
  refine Ret.of_at (N := 83) Try.call106 Try.func106 rfl rfl rfl ?_
  have hE := Ext.refl H
  have z_hE := hE.lt
  have z_hs := hs.lt
  refine At.region rfl rfl ?_
  refine Reg.op rfl rfl rfl rfl (Does.box rfl rfl) ?_
  rintro _ H0_0 ⟨rfl, hn0_0⟩
  have z0_0 := hn0_0.size
  replace hE := hE.ext hn0_0.ext
  replace hs := hs.ext hn0_0.ext
  have o0_0 := hn0_0.own
  refine Reg.op rfl rfl rfl rfl (Does.box rfl rfl) ?_
  rintro _ H0_1 ⟨rfl, hn0_1⟩
  have z0_1 := hn0_1.size
  replace hE := hE.ext hn0_1.ext
  replace hs := hs.ext hn0_1.ext
  replace o0_0 := o0_0.ext hn0_1.ext
  have o0_1 := hn0_1.own
  refine Reg.pur rfl rfl rfl rfl (Pur.asg rfl) ?_
  refine Reg.nil ?_
  refine At.region rfl rfl ?_
  refine Reg.pur rfl rfl rfl rfl (Pur.mv rfl) ?_
  refine Reg.lod rfl rfl rfl rfl (Lod.ldn ag28 rfl o0_0.blk (by first | exact whole rfl | rfl | (simp only [List.drop_succ_cons, List.drop_zero, List.take_succ_cons, List.take_zero]; rfl)) (by first | rfl | (simp [*]; done))) ?_
  refine Reg.op rfl rfl rfl rfl (Does.call rfl (slvRow_ok (h.ext hE) hs.blk ha5 (rowM_t ha).1)) ?_
  rintro v1_2 H1_2 ⟨hE1_2, hR⟩
  have z1_2 := hE1_2.lt
  replace hE := hE.ext hE1_2
  replace hs := hs.ext hE1_2
  replace o0_0 := o0_0.ext hE1_2
  replace o0_1 := o0_1.ext hE1_2
  obtain ⟨a1, ea, rfl, ha1, hea, hax⟩ := hR.un
  obtain ⟨u0, u1, u2, u3, u4, rfl⟩ := row_five ha1
  have z_hea := hea.lt
  refine Reg.pur rfl rfl rfl rfl (Pur.mv rfl) ?_
  refine Reg.pur rfl rfl rfl rfl (Pur.ext rfl rfl) ?_
  refine Reg.pur rfl rfl rfl rfl (Pur.ext rfl rfl) ?_
  refine Reg.op0 rfl rfl rfl (Does.stn ag28 rfl rfl (by first | rfl | exact ones_Is _) (by first | rfl | (simp [*]; done)) o0_0 (by first | decide | (simp; done) | (simp; omega) | omega)) ?_
  rintro _ H1_6 hu1_6
  have z1_6 := hu1_6.size
  replace hE := hE.upw hu1_6 (by omega)
  replace hs := hs.upw hu1_6 (by omega)
  replace o0_1 := o0_1.upw hu1_6 (by omega)
  replace hea := hea.upw hu1_6 (by omega)
  replace o0_0 := hu1_6.own
  first | rw [over (by first | rfl | (simp; done))] at o0_0 | skip
  refine Reg.pur rfl rfl rfl rfl (Pur.asg rfl) ?_
  refine Reg.nil ?_
  refine At.region rfl rfl ?_
  refine Reg.pur rfl rfl rfl rfl (Pur.mv rfl) ?_
  refine Reg.pur rfl rfl rfl rfl (hea.ne rfl rfl rfl) ?_
  refine Reg.nil ?_
  refine At.cond rfl rfl (fun q20 => ?_) (fun q20 => ?_)
  · first | (simp only [decide_eq_true_eq, decide_eq_false_iff_not, Bool.not_eq_true', Bool.not_eq_false', ne_eq, Decidable.not_not, Bool.not_eq_true, Bool.not_eq_false] at q20) | (dsimp only at q20) | skip
    refine At.region rfl rfl ?_
    refine Reg.pur rfl rfl rfl rfl (Pur.mv rfl) ?_
    refine Reg.pur rfl rfl rfl rfl (Pur.asg rfl) ?_
    refine Reg.nil ?_
    refine At.ret rfl Try.func106 rfl ?_
    have hn : rwS s.1 [p0, p1, p2, p3, p4] = none := none_of q20
    have hr : rowsU s [p0, p1, p2, p3, p4] [q0, q1, q2, q3, q4] = .error 1003 := by unfold rowsU; rw [hn]
    rw [hr]
    rw [hn] at hea
    exact ⟨PrtF.prt hea, .inr (.inr rfl), hE.but⟩
  first | (simp only [decide_eq_true_eq, decide_eq_false_iff_not, Bool.not_eq_true', Bool.not_eq_false', ne_eq, Decidable.not_not, Bool.not_eq_true, Bool.not_eq_false] at q20) | (dsimp only at q20) | skip
  obtain ⟨ra, hra⟩ := some_of q20
  obtain rfl := hax _ hra
  refine At.region rfl rfl ?_
  refine Reg.pur rfl rfl rfl rfl (Pur.mv rfl) ?_
  refine Reg.lod rfl rfl rfl rfl (Lod.ldn ag28 rfl o0_1.blk (by first | exact whole rfl | rfl | (simp only [List.drop_succ_cons, List.drop_zero, List.take_succ_cons, List.take_zero]; rfl)) (by first | rfl | (simp [*]; done))) ?_
  refine Reg.op rfl rfl rfl rfl (Does.call rfl (slvRow_ok (h.ext hE) hs.blk hb5 (rowM_t hb).1)) ?_
  rintro v4_2 H4_2 ⟨hE4_2, hR'⟩
  have z4_2 := hE4_2.lt
  replace hE := hE.ext hE4_2
  replace hs := hs.ext hE4_2
  replace o0_0 := o0_0.ext hE4_2
  replace o0_1 := o0_1.ext hE4_2
  replace hea := hea.ext hE4_2
  obtain ⟨b1, eb, rfl, hb1, heb, hbx⟩ := hR'.un
  obtain ⟨w0, w1, w2, w3, w4, rfl⟩ := row_five hb1
  have z_heb := heb.lt
  refine Reg.pur rfl rfl rfl rfl (Pur.mv rfl) ?_
  refine Reg.pur rfl rfl rfl rfl (Pur.ext rfl rfl) ?_
  refine Reg.pur rfl rfl rfl rfl (Pur.ext rfl rfl) ?_
  refine Reg.op0 rfl rfl rfl (Does.stn ag28 rfl rfl (by first | rfl | exact ones_Is _) (by first | rfl | (simp [*]; done)) o0_1 (by first | decide | (simp; done) | (simp; omega) | omega)) ?_
  rintro _ H4_6 hu4_6
  have z4_6 := hu4_6.size
  replace hE := hE.upw hu4_6 (by omega)
  replace hs := hs.upw hu4_6 (by omega)
  replace o0_0 := o0_0.upw hu4_6 (by omega)
  replace hea := hea.upw hu4_6 (by omega)
  replace heb := heb.upw hu4_6 (by omega)
  replace o0_1 := hu4_6.own
  first | rw [over (by first | rfl | (simp; done))] at o0_1 | skip
  refine Reg.pur rfl rfl rfl rfl (Pur.asg rfl) ?_
  refine Reg.nil ?_
  refine At.region rfl rfl ?_
  refine Reg.pur rfl rfl rfl rfl (Pur.mv rfl) ?_
  refine Reg.pur rfl rfl rfl rfl (heb.ne rfl rfl rfl) ?_
  refine Reg.nil ?_
  refine At.cond rfl rfl (fun q29 => ?_) (fun q29 => ?_)
  · first | (simp only [decide_eq_true_eq, decide_eq_false_iff_not, Bool.not_eq_true', Bool.not_eq_false', ne_eq, Decidable.not_not, Bool.not_eq_true, Bool.not_eq_false] at q29) | (dsimp only at q29) | skip
    refine At.region rfl rfl ?_
    refine Reg.pur rfl rfl rfl rfl (Pur.mv rfl) ?_
    refine Reg.pur rfl rfl rfl rfl (Pur.asg rfl) ?_
    refine Reg.nil ?_
    refine At.ret rfl Try.func106 rfl ?_
    have hn : rwS s.1 [q0, q1, q2, q3, q4] = none := none_of q29
    have hr : rowsU s [p0, p1, p2, p3, p4] [q0, q1, q2, q3, q4] = .error 1003 := by unfold rowsU; rw [hra, hn]
    rw [hr]
    rw [hn] at heb
    exact ⟨PrtF.prt heb, .inr (.inr rfl), hE.but⟩
  first | (simp only [decide_eq_true_eq, decide_eq_false_iff_not, Bool.not_eq_true', Bool.not_eq_false', ne_eq, Decidable.not_not, Bool.not_eq_true, Bool.not_eq_false] at q29) | (dsimp only at q29) | skip
  obtain ⟨rb, hrb⟩ := some_of q29
  obtain rfl := hbx _ hrb
  refine At.region rfl rfl ?_
  refine Reg.pur rfl rfl rfl rfl (Pur.mv rfl) ?_
  refine Reg.pur rfl rfl rfl rfl (Pur.nilc rfl) ?_
  refine Reg.pur rfl rfl rfl rfl (Pur.fld _ fo122_1 rfl) ?_
  refine Reg.lod rfl rfl rfl rfl (Lod.ld sc3 rfl hs.blk rfl) ?_
  refine Reg.pur rfl rfl rfl rfl (Pur.geq rfl rfl) ?_
  refine Reg.nil ?_
  refine At.cond rfl rfl (fun q35 => ?_) (fun q35 => ?_)
  · first | (simp only [decide_eq_true_eq, decide_eq_false_iff_not, Bool.not_eq_true', Bool.not_eq_false', ne_eq, Decidable.not_not, Bool.not_eq_true, Bool.not_eq_false] at q35) | (dsimp only at q35) | skip
    refine At.region rfl rfl ?_
    refine Reg.pur rfl rfl rfl rfl (Pur.mki (by kernel_rfl) rfl) ?_
    refine Reg.pur rfl rfl rfl rfl (Pur.bld (cs := [_, _]) pl166 zc166 rfl rfl ⟨rfl, rfl, rfl⟩) ?_
    refine Reg.op rfl rfl rfl rfl (Does.box rfl rfl) ?_
    rintro _ H8_2 ⟨rfl, hn8_2⟩
    have z8_2 := hn8_2.size
    replace hE := hE.ext hn8_2.ext
    replace hs := hs.ext hn8_2.ext
    replace o0_0 := o0_0.ext hn8_2.ext
    replace o0_1 := o0_1.ext hn8_2.ext
    replace hea := hea.ext hn8_2.ext
    replace heb := heb.ext hn8_2.ext
    have o8_2 := hn8_2.own
    refine Reg.pur rfl rfl rfl rfl (Pur.mki (by kernel_rfl) rfl) ?_
    refine Reg.pur rfl rfl rfl rfl (Pur.asg rfl) ?_
    refine Reg.nil ?_
    refine At.ret rfl Try.func106 rfl ?_
    have hr : rowsU s [p0, p1, p2, p3, p4] [q0, q1, q2, q3, q4] = .error 1003 := by unfold rowsU; rw [hra, hrb]; exact if_pos q35
    rw [hr]
    exact ⟨⟨_, _, _, rfl, o8_2.blk, .inl rfl⟩, .inr (.inr rfl), hE.but⟩
  first | (simp only [decide_eq_true_eq, decide_eq_false_iff_not, Bool.not_eq_true', Bool.not_eq_false', ne_eq, Decidable.not_not, Bool.not_eq_true, Bool.not_eq_false] at q35) | (dsimp only at q35) | skip
  refine At.drawE ((Bks.cons o0_0.blk (Bks.cons o0_1.blk (Bks.cons hs.blk Bks.nil)))) [6] mixed rfl rfl ?_
  refine RegD.take (i := 0) rfl rfl rfl rfl (by kernel_rfl) (Bks.cons o0_0.blk (Bks.cons o0_1.blk (Bks.cons hs.blk Bks.nil))) (fun H hS => Lod.ldn ag28 rfl hS.hd (by first | exact whole rfl | rfl | (simp only [List.drop_succ_cons, List.drop_zero, List.take_succ_cons, List.take_zero]; rfl)) (by first | rfl | (simp [*]; done))) ?_
  refine RegD.take (i := 1) rfl rfl rfl rfl (by kernel_rfl) (Bks.cons o0_0.blk (Bks.cons o0_1.blk (Bks.cons hs.blk Bks.nil))) (fun H hS => Lod.ldn ag28 rfl hS.tl.hd (by first | exact whole rfl | rfl | (simp only [List.drop_succ_cons, List.drop_zero, List.take_succ_cons, List.take_zero]; rfl)) (by first | rfl | (simp [*]; done))) ?_
  refine RegD.tpur (i := 2) rfl rfl rfl rfl (by kernel_rfl) (Pur.mv rfl) ?_
  refine RegD.tpur (i := 3) rfl rfl rfl rfl (by kernel_rfl) (Pur.nilc rfl) ?_
  refine RegD.tpur (i := 4) rfl rfl rfl rfl (by kernel_rfl) (Pur.fld _ fo122_1 rfl) ?_
  refine RegD.take (i := 5) rfl rfl rfl rfl (by kernel_rfl) (Bks.cons o0_0.blk (Bks.cons o0_1.blk (Bks.cons hs.blk Bks.nil))) (fun H hS => Lod.ld sc3 rfl hS.tl.tl.hd rfl) ?_
  refine RegD.one (i := 6) (by kernel_rfl) rfl rfl rfl rfl (Does.call rfl (rowUnify_ok _ _ s.2 rfl rfl _)) ?_
  rintro v9_6 H9_6 ⟨A9, cap9, rfl, hB9, hfr9, hE9_6⟩
  have z9_6 := hE9_6.lt
  replace hE := hE.ext hE9_6
  replace hs := hs.ext hE9_6
  replace o0_0 := o0_0.ext hE9_6
  replace o0_1 := o0_1.ext hE9_6
  replace hea := hea.ext hE9_6
  replace heb := heb.ext hE9_6
  have hS9 := hB9.sl
  have z_hS9 := hS9.lt
  refine ⟨fun h => (by cases h), ?_⟩
  refine RegD.tpur (i := 7) rfl rfl rfl rfl (by kernel_rfl) (Pur.mv rfl) ?_
  refine RegD.tpur (i := 8) rfl rfl rfl rfl (by kernel_rfl) (Pur.ext rfl rfl) ?_
  refine RegD.tpur (i := 9) rfl rfl rfl rfl (by kernel_rfl) (Pur.ext rfl rfl) ?_
  refine RegD.tpur (i := 10) rfl rfl rfl rfl (by kernel_rfl) (Pur.asg rfl) ?_
  refine RegD.tpur (i := 11) rfl rfl rfl rfl (by kernel_rfl) (Pur.asg rfl) ?_
  refine RegD.done (by kernel_rfl) ?_
  refine At.region rfl rfl ?_
  refine Reg.pur rfl rfl rfl rfl (Pur.mv rfl) ?_
  refine Reg.pur rfl rfl rfl rfl (Pur.neq rfl rfl) ?_
  refine Reg.nil ?_
  refine At.cond rfl rfl (fun q51 => ?_) (fun q51 => ?_)
  · first | (simp only [decide_eq_true_eq, decide_eq_false_iff_not, Bool.not_eq_true', Bool.not_eq_false', ne_eq, Decidable.not_not, Bool.not_eq_true, Bool.not_eq_false] at q51) | (dsimp only at q51) | skip
    have hcd := uniR_code q51
    have hr : rowsU s [p0, p1, p2, p3, p4] [q0, q1, q2, q3, q4] = .error 1001 := by unfold rowsU; rw [hra, hrb]; dsimp only; rw [if_neg (by omega)]; exact if_pos q51
    refine At.region rfl rfl ?_
    refine Reg.pur rfl rfl rfl rfl (Pur.mki (by kernel_rfl) rfl) ?_
    refine Reg.pur rfl rfl rfl rfl (Pur.mv rfl) ?_
    refine Reg.pur rfl rfl rfl rfl (Pur.mki (by kernel_rfl) rfl) ?_
    refine Reg.op rfl rfl rfl rfl (Does.bsl1T sl1_194 Try.underlying194 rfl rfl rfl rfl rfl) ?_
    rintro _ H11_3 ⟨rfl, hp11_3⟩
    have hn11_3 := New.of_eq hp11_3
    have z11_3 := hn11_3.size
    replace hE := hE.ext hn11_3.ext
    replace hs := hs.ext hn11_3.ext
    replace o0_0 := o0_0.ext hn11_3.ext
    replace o0_1 := o0_1.ext hn11_3.ext
    replace hea := hea.ext hn11_3.ext
    replace heb := heb.ext hn11_3.ext
    replace hS9 := hS9.ext hn11_3.ext
    have o11_3 := hn11_3.own
    refine Reg.op rfl rfl rfl rfl (Does.call rfl (join_ok o11_3)) ?_
    rintro w11_4 H11_4 ⟨hJ, hE11_4⟩
    have z11_4 := hE11_4.lt
    replace hE := hE.ext hE11_4
    replace hs := hs.ext hE11_4
    replace o0_0 := o0_0.ext hE11_4
    replace o0_1 := o0_1.ext hE11_4
    replace hea := hea.ext hE11_4
    replace heb := heb.ext hE11_4
    replace hS9 := hS9.ext hE11_4
    replace o11_3 := o11_3.ext hE11_4
    have hJ0 := hJ
    obtain ⟨jb, jeb, jcap, jcs, rfl, hj1, hj2, hj3⟩ := hJ
    have z_hj1 := hj1.lt
    have z_hj2 := hj2.lt
    refine Reg.pur rfl rfl rfl rfl (Pur.bld (cs := [_, _]) pl166 zc166 rfl rfl ⟨rfl, rfl, rfl⟩) ?_
    refine Reg.op rfl rfl rfl rfl (Does.box rfl rfl) ?_
    rintro _ H11_6 ⟨rfl, hn11_6⟩
    have z11_6 := hn11_6.size
    replace hE := hE.ext hn11_6.ext
    replace hs := hs.ext hn11_6.ext
    replace o0_0 := o0_0.ext hn11_6.ext
    replace o0_1 := o0_1.ext hn11_6.ext
    replace hea := hea.ext hn11_6.ext
    replace heb := heb.ext hn11_6.ext
    replace hS9 := hS9.ext hn11_6.ext
    replace o11_3 := o11_3.ext hn11_6.ext
    replace hj1 := hj1.ext hn11_6.ext
    replace hj2 := hj2.ext hn11_6.ext
    have o11_6 := hn11_6.own
    refine Reg.pur rfl rfl rfl rfl (Pur.mki (by kernel_rfl) rfl) ?_
    refine Reg.pur rfl rfl rfl rfl (Pur.asg rfl) ?_
    refine Reg.nil ?_
    refine At.ret rfl Try.func106 rfl ?_
    rw [hr]
    exact ⟨⟨_, _, _, rfl, o11_6.blk, .inr ⟨_, by omega, by omega, by omega, jb, jeb, jcap, jcs, rfl, hj1, hj2, hj3⟩⟩, .inl rfl, hE.but⟩
  first | (simp only [decide_eq_true_eq, decide_eq_false_iff_not, Bool.not_eq_true', Bool.not_eq_false', ne_eq, Decidable.not_not, Bool.not_eq_true, Bool.not_eq_false] at q51) | (dsimp only at q51) | skip
  have hr : rowsU s [p0, p1, p2, p3, p4] [q0, q1, q2, q3, q4] = match addAll ((uniR [u0, u1, u2, u3, u4] [w0, w1, w2, w3, w4] s.2).1.map bt) s.1 with | some l => .ok (l, s.2 + ((uniR [u0, u1, u2, u3, u4] [w0, w1, w2, w3, w4] s.2).1.length / 2 : Nat)) | none => .error 1003 := by unfold rowsU; rw [hra, hrb]; dsimp only; rw [if_neg (by omega), if_neg (by rw [q51]; simp)]; generalize addAll _ _ = o; cases o <;> rfl
  obtain ⟨hl2, hmem⟩ := uniR_mem (hra0 _ hra).1 (hrb0 _ hrb).1 (by omega) q51
  clear hra0 hrb0 hea heb hax hbx hra hrb
  generalize huni : (uniR [u0, u1, u2, u3, u4] [w0, w1, w2, w3, w4] s.2).1 = L at *
  refine At.region rfl rfl ?_
  refine Reg.pur rfl rfl rfl rfl (Pur.mv rfl) ?_
  refine Reg.pur rfl rfl rfl rfl (Pur.nilc rfl) ?_
  refine Reg.pur rfl rfl rfl rfl (Pur.fld _ fo122_1 rfl) ?_
  refine Reg.lod rfl rfl rfl rfl (Lod.ld sc3 rfl hs.blk rfl) ?_
  refine Reg.pur rfl rfl rfl rfl (Pur.mv rfl) ?_
  refine Reg.pur rfl rfl rfl rfl (Pur.lenS isl22 rfl) ?_
  refine Reg.pur rfl rfl rfl rfl (Pur.half rfl rfl (by omega)) ?_
  first | refine Reg.pur rfl rfl rfl rfl (Pur.add64 rfl rfl (by omega)) ?_ | refine Reg.pur rfl rfl rfl rfl (Pur.add64 rfl rfl (by assumption)) ?_ | refine Reg.pur rfl rfl rfl rfl (Pur.add rfl rfl) ?_
  refine Reg.pur rfl rfl rfl rfl (Pur.nilc rfl) ?_
  refine Reg.pur rfl rfl rfl rfl (Pur.fld _ fo122_1 rfl) ?_
  have hE9 := hE

  refine Reg.op0 rfl rfl rfl (Does.st sc3 rfl rfl rfl hs (by first | decide | (simp; done) | (simp; omega) | omega)) ?_
  rintro _ H12_10 hu12_10
  have z12_10 := hu12_10.size
  replace o0_0 := o0_0.upw hu12_10 (by omega)
  replace o0_1 := o0_1.upw hu12_10 (by omega)
  replace hS9 := hS9.upw hu12_10 (by omega)
  replace hs := hu12_10.own
  refine Reg.nil ?_
  refine At.region rfl rfl ?_
  refine Reg.pur rfl rfl rfl rfl (Pur.mv rfl) ?_
  refine Reg.pur rfl rfl rfl rfl (Pur.lenS isl22 rfl) ?_
  refine Reg.pur rfl rfl rfl rfl (Pur.mv rfl) ?_
  refine Reg.nil ?_
  have hlt9 := hS9.lt
  have hgl := h.lt
  refine At.loop (σ := Nat × Option Addr × Nat × List Bd × List Bt) (fun (i, A', cap', Bs', Ts') => [(72, I i), (71, I L.length), (70, .slice A9 L.length cap9), (0, ptr sb 0)]) (fun (i, A', cap', Bs', Ts') H' => i ≤ L.length ∧ Bs'.length = Bs.length + i ∧ Slv H' lo sb A' cap' Bs' Ts' ∧ addAll (L.map bt) s.1 = addAll ((L.drop i).map bt) Ts' ∧ Own H' sb [.slice A' Bs'.length cap', I (s.2 + (L.length / 2 : Nat))] ∧ SlT H' encB 8 (.slice A9 L.length cap9) L ∧ (L.length = 0 ∨ (ob A9 ≠ ob A' ∧ ob A9 ≠ sb ∧ ob A9 < H'.size)) ∧ Md sb A A' H H') (fun (i, A', cap', Bs', Ts') => L.length - i) (0, A, cap, Bs, s.1) rfl ⟨rfl, rfl, rfl, rfl, trivial⟩ ⟨by omega, rfl, (h.ext hE9).via hu12_10.but (fun g _ hg e => hg e), rfl, hs, hS9, by omega, (Md.refl sb A H).ext hE9 |>.trans ⟨hu12_10.but.mono (fun b hb e => .inl e), .inl rfl⟩⟩ ?_
  have hlo := h.lo
  clear h hs hS9 hB9 hE9
  rintro ⟨i, A', cap', Bs', Ts'⟩ H3 ⟨hi, hll, hSl, hadd, hs, hS9, hA9, hM⟩ ih
  dsimp only at hi hll hSl hadd hs hA9 hM ⊢
  have hsb3 := hs.lt
  have hML := hM.1.1
  have hE := Ext.refl H3
  have z_hE := hE.lt
  have z_hs := hs.lt
  have z_hS9 := hS9.lt
  refine At.region rfl rfl ?_
  refine Reg.pur rfl rfl rfl rfl (Pur.lss rfl rfl) ?_
  refine Reg.nil ?_
  refine At.cond rfl rfl (fun q73 => ?_) (fun q73 => ?_)
  · first | (simp only [decide_eq_true_eq, decide_eq_false_iff_not, Bool.not_eq_true', Bool.not_eq_false', ne_eq, Decidable.not_not, Bool.not_eq_true, Bool.not_eq_false] at q73) | (dsimp only at q73) | skip
    have hi' : i < L.length := by omega
    obtain ⟨v, r, hxe, hr5, hbok⟩ := hmem _ (List.getElem_mem hi')
    have hw9 : Wide encB 8 L := fun x hx => by obtain ⟨v, r, rfl, hr5, _⟩ := hmem x hx; simp [bR, hr5]
    obtain ⟨bq, oq, cq, rfl, hBq, hdq, h8⟩ := sl_at hw9 hS9 hi'
    rw [addAll_drop hi', hxe] at hadd
    rw [hxe] at hdq h8 hbok
    refine At.region rfl rfl ?_
    refine Reg.pur rfl rfl rfl rfl (Pur.idx _ es22 rfl rfl (by omega) (by omega)) ?_
    refine Reg.lod rfl rfl rfl rfl (Lod.ldn ag49 rfl hBq hdq h8) ?_
    refine Reg.op rfl rfl rfl rfl (Does.alloc zc49) ?_
    rintro _ H15_2 ⟨rfl, hn15_2⟩
    have z15_2 := hn15_2.size
    replace hE := hE.ext hn15_2.ext
    replace hs := hs.ext hn15_2.ext
    replace hS9 := hS9.ext hn15_2.ext
    have o15_2 := hn15_2.own
    refine Reg.op0 rfl rfl rfl (Does.stn ag49 rfl rfl (ones_enc _) h8 o15_2 (Nat.le_refl _)) ?_
    rintro _ H15_3 hu15_3
    have z15_3 := hu15_3.size
    replace hE := hE.upw hu15_3 (by omega)
    replace hs := hs.upw hu15_3 (by omega)
    replace hS9 := hS9.upw hu15_3 (by omega)
    replace o15_2 := hu15_3.own
    first | rw [over (by first | rfl | (simp; done))] at o15_2 | skip
    refine Reg.nil ?_
    refine At.region rfl rfl ?_
    refine Reg.pur rfl rfl rfl rfl (Pur.mv rfl) ?_
    refine Reg.lod rfl rfl rfl rfl (Lod.ldn ag49 rfl o15_2.blk (whole h8) h8) ?_
    refine Reg.op rfl rfl rfl rfl (Does.call rfl (add_ok (hSl.ext hE) hs (bes_row hr5 hbok) (by omega))) ?_
    rintro v16_2 H16_2 hP
    refine Reg.pur rfl rfl rfl rfl (Pur.asg rfl) ?_
    refine Reg.nil ?_
    refine At.region rfl rfl ?_
    refine Reg.pur rfl rfl rfl rfl (Pur.mv rfl) ?_
    refine Reg.pur rfl rfl rfl rfl (hP.ne rfl rfl rfl) ?_
    refine Reg.nil ?_
    refine At.cond rfl rfl (fun q80 => ?_) (fun q80 => ?_)
    · first | (simp only [decide_eq_true_eq, decide_eq_false_iff_not, Bool.not_eq_true', Bool.not_eq_false', ne_eq, Decidable.not_not, Bool.not_eq_true, Bool.not_eq_false] at q80) | (dsimp only at q80) | skip
      refine At.region rfl rfl ?_
      refine Reg.pur rfl rfl rfl rfl (Pur.mv rfl) ?_
      refine Reg.pur rfl rfl rfl rfl (Pur.asg rfl) ?_
      refine Reg.nil ?_
      refine At.ret rfl Try.func106 rfl ?_
      have hn := none_of q80
      rw [hn] at hP hadd
      rw [hr, hadd]
      exact ⟨hP.1, .inr (.inr rfl), ((hM.low hlo hgl.2.1).trans hE.but).trans hP.2⟩
    first | (simp only [decide_eq_true_eq, decide_eq_false_iff_not, Bool.not_eq_true', Bool.not_eq_false', ne_eq, Decidable.not_not, Bool.not_eq_true, Bool.not_eq_false] at q80) | (dsimp only at q80) | skip
    refine At.region rfl rfl ?_
    first | refine Reg.pur rfl rfl rfl rfl (Pur.add64 rfl rfl (by omega)) ?_ | refine Reg.pur rfl rfl rfl rfl (Pur.add64 rfl rfl (by assumption)) ?_ | refine Reg.pur rfl rfl rfl rfl (Pur.add rfl rfl) ?_
    refine Reg.pur rfl rfl rfl rfl (Pur.mv rfl) ?_
    refine Reg.nil ?_
    obtain ⟨Ts2, h2⟩ := some_of q80
    rw [h2] at hP hadd
    obtain ⟨rfl, A2, cap2, Bs2, hSl2, hs2, hM2⟩ := hP
    have hlen : Bs2.length = Bs.length + (i + 1) := by { have := hSl2.lenT; have := addB_length h2; have := hSl.lenT; omega }
    have hzz := hM2.1.1
    have hob := hM2.2
    exact At.via (ih (i + 1, A2, cap2, Bs2, Ts2) _ ⟨by omega, hlen, hSl2, hadd, hs2, hS9.via hM2.1 (fun h0 g hg hh => by omega), by omega, (hM.ext hE).trans hM2⟩ (by simp only; omega)) ⟨rfl, rfl, rfl, rfl, trivial⟩
  first | (simp only [decide_eq_true_eq, decide_eq_false_iff_not, Bool.not_eq_true', Bool.not_eq_false', ne_eq, Decidable.not_not, Bool.not_eq_true, Bool.not_eq_false] at q73) | (dsimp only at q73) | skip
  refine At.region rfl rfl ?_
  refine Reg.pur rfl rfl rfl rfl (Pur.asg rfl) ?_
  refine Reg.nil ?_
  refine At.ret rfl Try.func106 rfl ?_
  have hend : addAll (L.map bt) s.1 = some Ts' := by rw [hadd, List.drop_eq_nil_of_le (by omega)]; rfl
  rw [hr, hend]
  exact ⟨rfl, A', cap', Bs', hSl, hs, hM⟩
end Go.Proofs.Ytlfillhffpiffaa

namespace Go.Proofs.Ytlfillhffpiffaa
set_option linter.unusedSimpArgs false
set_option linter.unusedVariables false
set_option maxRecDepth 8000
set_option maxHeartbeats 4000000
open Go Go.Fx Go.Proofs
namespace FactsUniY
theorem ag25 : ag Try.prog 25 = some 1 := by kernel_rfl
theorem ag28 : ag Try.prog 28 = some 5 := by kernel_rfl
theorem ag47 : ag Try.prog 47 = some 9 := by kernel_rfl
theorem eqt47 : eqT Try.prog 47 = some [.int .i64, .int .i64, .int .i64, .int .i64, .int .i64, .int .i64, .int .i64, .int .i64, .int .i64] := by kernel_rfl
theorem fo47_0 : foff Try.prog 47 0 = some 0 := by kernel_rfl
theorem fo47_1 : foff Try.prog 47 1 = some 1 := by kernel_rfl
theorem fo47_4 : foff Try.prog 47 4 = some 4 := by kernel_rfl
theorem mixed : Try.prog.follows .mixedOrders = true := by kernel_rfl
theorem pl166 : places Try.prog 166 = some [(0, 1), (1, 1)] := by kernel_rfl
theorem sc3 : sc Try.prog 3 = true := by kernel_rfl
theorem zc166 : zc Try.prog 166 = some [.string ⟨#[]⟩, .nilIface] := by kernel_rfl
theorem zc25 : zc Try.prog 25 = some [.slice none 0 0] := by kernel_rfl
end FactsUniY
open FactsUniY

def Tm.lst : Tm → List Int
  | .bas k => bNode k
  | .var v => vNode v
  | .fn a r b => fNode ((a.sz : Int) - 1) ((a.sz : Int) + b.sz - 1) r
theorem lst_el : ∀ t : Tm, el (t.enc 0) (((t.enc 0).length : Int) - 1) = t.lst
  | .bas k => rfl
  | .var v => rfl
  | .fn a r b => (enc_parts a r b).1
theorem lst_nine {t : Tm} (h : t.ok) : t.lst.length = 9 := by
  cases t with
  | bas k => rfl
  | var v => rfl
  | fn a r b => simp [Tm.lst, h.2.1]
theorem lst_var {t : Tm} (h : t.lst.getD 0 0 = 2) : ∃ v, t = .var v := by
  cases t with
  | bas k => cases k <;> simp [Tm.lst] at h
  | var v => exact ⟨v, rfl⟩
  | fn a r b => simp [Tm.lst] at h
theorem lst_fn {t : Tm} (h : t.lst.getD 0 0 = 3) : ∃ a r b, t = .fn a r b := by
  cases t with
  | bas k => cases k <;> simp [Tm.lst] at h
  | var v => simp [Tm.lst] at h
  | fn a r b => exact ⟨a, r, b, rfl⟩
theorem leaf_v1 {s : Us} {v : Int} {q : Tm} (h : q ≠ .var v) : leafU s (.var v) q = bindU s v q := by
  cases q with
  | var w => simp only [leafU]; rw [if_neg (fun e => h (by rw [e]))]
  | bas k => rfl
  | fn a r b => rfl
theorem leaf_v2 {s : Us} {w : Int} {p : Tm} (h : p.lst.getD 0 0 ≠ 2) : leafU s p (.var w) = bindU s w p := by
  cases p with
  | var v => exact (h rfl).elim
  | bas k => rfl
  | fn a r b => rfl
theorem leaf_ne {s : Us} {p q : Tm} (h1 : p.lst.getD 0 0 ≠ 2) (h2 : q.lst.getD 0 0 ≠ 2) (h : p.lst.getD 0 0 ≠ q.lst.getD 0 0) : leafU s p q = .error 1001 ∧ (isFn p && isFn q) = false := by
  cases p with
  | var v => exact (h1 rfl).elim
  | bas k =>
    cases q with
    | var v => exact (h2 rfl).elim
    | bas l =>
      have : k ≠ l := fun e => h (by rw [e])
      simp [leafU, this, isFn]
    | fn a r b => exact ⟨rfl, rfl⟩
  | fn a r b =>
    cases q with
    | var v => exact (h2 rfl).elim
    | bas l => exact ⟨rfl, rfl⟩
    | fn a' r' b' => exact (h rfl).elim
theorem leaf_eq {s : Us} {p q : Tm} (h1 : p.lst.getD 0 0 ≠ 2) (h3 : p.lst.getD 0 0 ≠ 3) (h : p.lst.getD 0 0 = q.lst.getD 0 0) : leafU s p q = .ok s ∧ (isFn p && isFn q) = false := by
  cases p with
  | var v => exact (h1 rfl).elim
  | fn a r b => exact (h3 rfl).elim
  | bas k =>
    cases q with
    | var v => cases k <;> simp [Tm.lst] at h
    | fn a r b => cases k <;> simp [Tm.lst] at h
    | bas l =>
      have : k = l := by cases k <;> cases l <;> simp [Tm.lst] at h <;> rfl
      simp [leafU, this, isFn]
theorem lst_eqv {v : Int} {q : Tm} (h : (Tm.var v).lst = q.lst) : q = .var v := by
  obtain ⟨w, rfl⟩ := lst_var (t := q) (by rw [← h]; rfl)
  simp only [Tm.lst, List.cons.injEq] at h
  rw [h.2.1]
theorem nod_row {c : List Value} {o : Nat} {a b : Int} {r : List Int} (h : (c.drop o).take 9 = Is (fNode a b r)) (hr : r.length = 5) : (c.drop (o + 4)).take 5 = Is r := by
  rw [← List.drop_drop, take_mid h (by decide)]
  simp [Is]
  rw [List.take_of_length_le (by simp [hr])]
def isOk {α β : Type} : Except α β → Bool
  | .ok _ => true
  | .error _ => false
theorem ok_of {α β : Type} {x : Except α β} (h : isOk x = true) : ∃ y, x = .ok y := by cases x with | ok y => exact ⟨y, rfl⟩ | error c => cases h
theorem err_of {α β : Type} {x : Except α β} (h : isOk x = false) : ∃ y, x = .error y := by cases x with | error y => exact ⟨y, rfl⟩ | ok c => cases h
theorem StpP.ne {H H' : Heap} {lo sb : Nat} {A : Option Addr} {r : Except Int Us} {v : Value} (h : StpP H lo sb A r v H') : ∀ {dst ty pos aft gd} {e : Env} {x y : Operand} {t' : TypeId} (_ : ev e x = some v) (_ : isK y = true) (_ : ev e y = some .nilIface), Pur Try.prog ⟨dst, .binOp .neq 107 x y t', ty, pos, aft, gd⟩ e (.bool (!isOk r)) := by
  intro dst ty pos aft gd e x y t' hx hk hy
  cases r with
  | ok u => obtain ⟨rfl, _⟩ := h; exact Pur.neNN isIf_err hx hk hy
  | error c => obtain ⟨⟨_, _, _, rfl, _⟩, _⟩ := h; exact Pur.neNil isIf_err hx hy
theorem StpP.after {H H1 H2 : Heap} {lo sb : Nat} {A A' : Option Addr} {r : Except Int Us} {v : Value} (hM : Md sb A A' H H1) (h1 : lo ≤ sb) (h2 : ob A = -1 ∨ (lo : Int) ≤ ob A) (h : StpP H1 lo sb A' r v H2) : StpP H lo sb A r v H2 := by
  cases r with
  | ok u => obtain ⟨rfl, A2, c2, B2, k1, k2, k3⟩ := h; exact ⟨rfl, A2, c2, B2, k1, k2, hM.trans k3⟩
  | error c => exact ⟨h.1, h.2.1, (hM.low h1 h2).trans h.2.2⟩
theorem Md.of_ext {sb : Nat} {A : Option Addr} {H H' : Heap} (h : Ext H H') : Md sb A A H H' := (Md.refl sb A H).ext h
theorem StpP.of_prt {H H' : Heap} {lo sb : Nat} {A : Option Addr} {v : Value} {B : Nat} (h : PrtF B H' v 1003) (hE : Ext H H') : StpP H lo sb A (.error 1003) v H' := ⟨h.prt, .inr (.inr rfl), hE.but⟩

theorem types_ok : ∀ (n : Nat) {H : Heap} {lo sb cap : Nat} {A : Option Addr} {Bs : List Bd} {s : Us} {a b : Tm} {r : Except Int Us} (hu : uniU n s a b = some r) (hG : Good s) (h : Slv H lo sb A cap Bs s.1) (hs : Own H sb [.slice A Bs.length cap, I s.2]) (ha : a.ok) (haz : a.sz ≤ 256) (hb : b.ok) (hbz : b.sz ≤ 256) (hla : Lw s.2 a) (hlb : Lw s.2 b)
    {A1 A2 : Option Addr} {c1 c2 yb yo zb zo : Nat} {cy cz : List Value} (hS1 : SlT H Is 9 (.slice A1 (a.enc 0).length c1) (a.enc 0)) (hY : Blk H yb cy) (hcy : cy[yo]? = some (.slice A1 (a.enc 0).length c1)) (hS2 : SlT H Is 9 (.slice A2 (b.enc 0).length c2) (b.enc 0)) (hZ : Blk H zb cz) (hcz : cz[zo]? = some (.slice A2 (b.enc 0).length c2)),
    Ret Try.prog 77 [ptr sb 0, ptr yb yo, ptr zb zo] H (StpP H lo sb A r)
  | 0, _, _, _, _, _, _, _, _, _, _, hu, _, _, _, _, _, _, _, _, _, _, _, _, _, _, _, _, _, _, _, _, _, _, _, _, _ => by cases hu
  | n + 1, H, lo, sb, cap, A, Bs, s, a, b, r, hu, hG, h, hs, ha, haz, hb, hbz, hla, hlb, A1, A2, c1, c2, yb, yo, zb, zo, cy, cz, hS1, hY, hcy, hS2, hZ, hcz => by
    have hlen : Bs.length ≤ 8192 := by rw [← h.lenT]; exact hG.len
    have hgl := h.lt
    refine Ret.of_at (N := 127) Try.call77 Try.func77 rfl rfl rfl ?_
    have hE := Ext.refl H
    have z_hE := hE.lt
    have z_hs := hs.lt
    have z_hS2 := hS2.lt
    have z_hZ := hZ.lt
    refine At.region rfl rfl ?_
    refine Reg.pur rfl rfl rfl rfl (Pur.asg rfl) ?_
    refine Reg.nil ?_
    refine At.region rfl rfl ?_
    refine Reg.pur rfl rfl rfl rfl (Pur.mv rfl) ?_
    refine Reg.pur rfl rfl rfl rfl (Pur.mv rfl) ?_
    refine Reg.op rfl rfl rfl rfl (Does.call rfl (slvType_ok (h.ext hE) hs.blk ha haz hS1 hY hcy)) ?_
    rintro v1_2 H1_2 ⟨hE1_2, hT⟩
    have z1_2 := hE1_2.lt
    replace hE := hE.ext hE1_2
    replace hs := hs.ext hE1_2
    replace hS2 := hS2.ext hE1_2
    replace hZ := hZ.ext hE1_2
    obtain ⟨Ap, cp, ea, Mp, rfl, hea, hGp, hNp, hlp, hax⟩ := hT.un
    clear hT
    have hX := Ext.refl H1_2
    have z_hX := hX.lt
    have z_hGp := hGp.lt
    refine Reg.pur rfl rfl rfl rfl (Pur.mv rfl) ?_
    refine Reg.pur rfl rfl rfl rfl (Pur.ext rfl rfl) ?_
    refine Reg.pur rfl rfl rfl rfl (Pur.ext rfl rfl) ?_
    refine Reg.op rfl rfl rfl rfl (Does.alloc zc25) ?_
    rintro _ H1_6 ⟨rfl, hn1_6⟩
    have z1_6 := hn1_6.size
    replace hE := hE.ext hn1_6.ext
    replace hs := hs.ext hn1_6.ext
    replace hS2 := hS2.ext hn1_6.ext
    replace hZ := hZ.ext hn1_6.ext
    replace hX := hX.ext hn1_6.ext
    replace hGp := hGp.ext hn1_6.ext
    have o1_6 := hn1_6.own
    refine Reg.op0 rfl rfl rfl (Does.stn ag25 rfl rfl (by first | rfl | exact ones_Is _) (by first | rfl | (simp [*]; done)) o1_6 (by first | decide | (simp; done) | (simp; omega) | omega)) ?_
    rintro _ H1_7 hu1_7
    have z1_7 := hu1_7.size
    replace hE := hE.upw hu1_7 (by omega)
    replace hs := hs.upw hu1_7 (by omega)
    replace hS2 := hS2.upw hu1_7 (by omega)
    replace hZ := hZ.upw hu1_7 (by omega)
    replace hX := hX.upw hu1_7 (by omega)
    replace hGp := hGp.upw hu1_7 (by omega)
    replace o1_6 := hu1_7.own
    first | rw [over (by first | rfl | (simp; done))] at o1_6 | skip
    refine Reg.pur rfl rfl rfl rfl (Pur.asg rfl) ?_
    refine Reg.nil ?_
    refine At.region rfl rfl ?_
    refine Reg.pur rfl rfl rfl rfl (Pur.mv rfl) ?_
    refine Reg.pur rfl rfl rfl rfl (hea.ne rfl rfl rfl) ?_
    refine Reg.nil ?_
    refine At.cond rfl rfl (fun q25 => ?_) (fun q25 => ?_)
    · first | (simp only [decide_eq_true_eq, decide_eq_false_iff_not, Bool.not_eq_true', Bool.not_eq_false', ne_eq, Decidable.not_not, Bool.not_eq_true, Bool.not_eq_false] at q25) | (dsimp only at q25) | skip
      refine At.region rfl rfl ?_
      refine Reg.pur rfl rfl rfl rfl (Pur.mv rfl) ?_
      refine Reg.pur rfl rfl rfl rfl (Pur.asg rfl) ?_
      refine Reg.nil ?_
      refine At.ret rfl Try.func77 rfl ?_
      have hn := none_of q25
      rw [uniU_bad (.inl hn)] at hu
      cases hu
      rw [hn] at hea
      exact StpP.of_prt (PrtF.ext hea hX) hE
    first | (simp only [decide_eq_true_eq, decide_eq_false_iff_not, Bool.not_eq_true', Bool.not_eq_false', ne_eq, Decidable.not_not, Bool.not_eq_true, Bool.not_eq_false] at q25) | (dsimp only at q25) | skip
    obtain ⟨p, hp⟩ := some_of q25
    obtain rfl := hax _ hp

    clear hea hX
    refine At.region rfl rfl ?_
    refine Reg.pur rfl rfl rfl rfl (Pur.mv rfl) ?_
    refine Reg.pur rfl rfl rfl rfl (Pur.mv rfl) ?_
    refine Reg.op rfl rfl rfl rfl (Does.call rfl (slvType_ok (h.ext hE) hs.blk hb hbz hS2 hZ hcz)) ?_
    rintro v4_2 H4_2 ⟨hE4_2, hT⟩
    have z4_2 := hE4_2.lt
    replace hE := hE.ext hE4_2
    replace hs := hs.ext hE4_2
    replace hS2 := hS2.ext hE4_2
    replace hZ := hZ.ext hE4_2
    replace hGp := hGp.ext hE4_2
    replace o1_6 := o1_6.ext hE4_2
    obtain ⟨Aq, cq, eb, Mq, rfl, heb, hGq, hNq, hlq, hbx⟩ := hT.un
    clear hT
    have hX := Ext.refl H4_2
    have z_hX := hX.lt
    have z_hGq := hGq.lt
    refine Reg.pur rfl rfl rfl rfl (Pur.mv rfl) ?_
    refine Reg.pur rfl rfl rfl rfl (Pur.ext rfl rfl) ?_
    refine Reg.pur rfl rfl rfl rfl (Pur.ext rfl rfl) ?_
    refine Reg.op rfl rfl rfl rfl (Does.alloc zc25) ?_
    rintro _ H4_6 ⟨rfl, hn4_6⟩
    have z4_6 := hn4_6.size
    replace hE := hE.ext hn4_6.ext
    replace hs := hs.ext hn4_6.ext
    replace hS2 := hS2.ext hn4_6.ext
    replace hZ := hZ.ext hn4_6.ext
    replace hGp := hGp.ext hn4_6.ext
    replace o1_6 := o1_6.ext hn4_6.ext
    replace hX := hX.ext hn4_6.ext
    replace hGq := hGq.ext hn4_6.ext
    have o4_6 := hn4_6.own
    refine Reg.op0 rfl rfl rfl (Does.stn ag25 rfl rfl (by first | rfl | exact ones_Is _) (by first | rfl | (simp [*]; done)) o4_6 (by first | decide | (simp; done) | (simp; omega) | omega)) ?_
    rintro _ H4_7 hu4_7
    have z4_7 := hu4_7.size
    replace hE := hE.upw hu4_7 (by omega)
    replace hs := hs.upw hu4_7 (by omega)
    replace hS2 := hS2.upw hu4_7 (by omega)
    replace hZ := hZ.upw hu4_7 (by omega)
    replace hGp := hGp.upw hu4_7 (by omega)
    replace o1_6 := o1_6.upw hu4_7 (by omega)
    replace hX := hX.upw hu4_7 (by omega)
    replace hGq := hGq.upw hu4_7 (by omega)
    replace o4_6 := hu4_7.own
    first | rw [over (by first | rfl | (simp; done))] at o4_6 | skip
    refine Reg.pur rfl rfl rfl rfl (Pur.asg rfl) ?_
    refine Reg.nil ?_
    refine At.region rfl rfl ?_
    refine Reg.pur rfl rfl rfl rfl (Pur.mv rfl) ?_
    refine Reg.pur rfl rfl rfl rfl (heb.ne rfl rfl rfl) ?_
    refine Reg.nil ?_
    refine At.cond rfl rfl (fun q34 => ?_) (fun q34 => ?_)
    · first | (simp only [decide_eq_true_eq, decide_eq_false_iff_not, Bool.not_eq_true', Bool.not_eq_false', ne_eq, Decidable.not_not, Bool.not_eq_true, Bool.not_eq_false] at q34) | (dsimp only at q34) | skip
      refine At.region rfl rfl ?_
      refine Reg.pur rfl rfl rfl rfl (Pur.mv rfl) ?_
      refine Reg.pur rfl rfl rfl rfl (Pur.asg rfl) ?_
      refine Reg.nil ?_
      refine At.ret rfl Try.func77 rfl ?_
      have hn := none_of q34
      rw [uniU_bad (.inr hn)] at hu
      cases hu
      rw [hn] at heb
      exact StpP.of_prt (PrtF.ext heb hX) hE
    first | (simp only [decide_eq_true_eq, decide_eq_false_iff_not, Bool.not_eq_true', Bool.not_eq_false', ne_eq, Decidable.not_not, Bool.not_eq_true, Bool.not_eq_false] at q34) | (dsimp only at q34) | skip
    obtain ⟨q, hq⟩ := some_of q34
    obtain rfl := hbx _ hq

    clear heb hX hax hbx hS1 hY hcy hS2 hZ hcz
    obtain ⟨hsp, hpz⟩ := tys_sub hp
    obtain ⟨hsq, hqz⟩ := tys_sub hq
    have hpo := sub_ok hG.inv.ok ha hsp
    have hqo := sub_ok hG.inv.ok hb hsq
    obtain ⟨hpl, hpr⟩ := sub_low hG.invR hG.f0 hla hsp
    obtain ⟨hql, hqr⟩ := sub_low hG.invR hG.f0 hlb hsq
    have hpn := p.enc_len 0
    have hqn := q.enc_len 0
    have hp1 := p.sz_pos
    have hq1 := q.sz_pos
    obtain ⟨bp, op, kp, rfl, hBp, hdp, hxp, hatp⟩ := el_cells hNp (own_sl (wide9 hNp) (by decide) hGp) (z := ((p.enc 0).length : Int) - 1) (by omega) (by omega)
    obtain ⟨bq, oq, kq, rfl, hBq, hdq, hxq, hatq⟩ := el_cells hNq (own_sl (wide9 hNq) (by decide) hGq) (z := ((q.enc 0).length : Int) - 1) (by omega) (by omega)
    rw [lst_el, show (((p.enc 0).length : Int) - 1).toNat = (p.enc 0).length - 1 by omega] at hdp hatp
    rw [lst_el, show (((q.enc 0).length : Int) - 1).toNat = (q.enc 0).length - 1 by omega] at hdq hatq
    rw [lst_el] at hxp hxq
    have hfp := fks_ints .i64 p.lst
    have hfq := fks_ints .i64 q.lst
    rw [hxp] at hfp
    rw [hxq] at hfq
    have hei := eqs_ints .i64 p.lst q.lst
    have hgp := hGp.lt
    have hgq := hGq.lt
    rw [ob_some] at hgp hgq
    have z_hBp := hBp.lt
    have z_hBq := hBq.lt
    refine At.region rfl rfl ?_
    refine Reg.op rfl rfl rfl rfl (Does.call rfl (root_ok (cap := cp) rfl rfl o1_6.blk hlp (by omega))) ?_
    rintro _ H4_7 ⟨rfl, rfl⟩
    refine Reg.op rfl rfl rfl rfl (Does.call rfl (root_ok (cap := cq) rfl rfl o4_6.blk hlq (by omega))) ?_
    rintro _ H4_7 ⟨rfl, rfl⟩
    refine Reg.pur rfl rfl rfl rfl (Pur.asg rfl) ?_
    refine Reg.pur rfl rfl rfl rfl (Pur.asg rfl) ?_
    refine Reg.nil ?_
    refine At.drawE ((Bks.cons hBp.blk (Bks.cons hBq.blk Bks.nil))) [] mixed rfl rfl ?_
    refine RegD.tpur (i := 0) rfl rfl rfl rfl (by kernel_rfl) (Pur.mv rfl) ?_
    refine RegD.tpur (i := 1) rfl rfl rfl rfl (by kernel_rfl) (Pur.nilc rfl) ?_
    refine RegD.tpur (i := 2) rfl rfl rfl rfl (by kernel_rfl) (Pur.fld _ fo47_0 rfl) ?_
    refine RegD.take (i := 3) rfl rfl rfl rfl (by kernel_rfl) (Bks.cons hBp.blk (Bks.cons hBq.blk Bks.nil)) (fun H hS => Lod.ld sc3 rfl hS.hd (hatp 0 (by decide))) ?_
    refine RegD.tpur (i := 4) rfl rfl rfl rfl (by kernel_rfl) (Pur.eql rfl rfl) ?_
    refine RegD.tpur (i := 5) rfl rfl rfl rfl (by kernel_rfl) (Pur.mv rfl) ?_
    refine RegD.case 44 rfl (fun q44 => ?_) (fun q44 => ?_)
    · first | (simp only [decide_eq_true_eq, decide_eq_false_iff_not, Bool.not_eq_true', Bool.not_eq_false', ne_eq, Decidable.not_not, Bool.not_eq_true, Bool.not_eq_false] at q44) | (dsimp only at q44) | skip
      refine RegD.gtpur (i := 6) rfl rfl rfl rfl rfl rfl (by kernel_rfl) (Pur.mv rfl) ?_
      refine RegD.gtpur (i := 7) rfl rfl rfl rfl rfl rfl (by kernel_rfl) (Pur.nilc rfl) ?_
      refine RegD.gtake (i := 8) rfl rfl rfl rfl rfl rfl (by kernel_rfl) (Bks.cons hBp.blk (Bks.cons hBq.blk Bks.nil)) (fun H hS => Lod.ldn ag47 rfl hS.hd hdp (by rw [List.length_map]; exact hxp)) ?_
      refine RegD.gtpur (i := 9) rfl rfl rfl rfl rfl rfl (by kernel_rfl) (Pur.mv rfl) ?_
      refine RegD.gtpur (i := 10) rfl rfl rfl rfl rfl rfl (by kernel_rfl) (Pur.nilc rfl) ?_
      refine RegD.gtake (i := 11) rfl rfl rfl rfl rfl rfl (by kernel_rfl) (Bks.cons hBp.blk (Bks.cons hBq.blk Bks.nil)) (fun H hS => Lod.ldn ag47 rfl hS.tl.hd hdq (by rw [List.length_map]; exact hxq)) ?_
      refine RegD.gtpur (i := 12) rfl rfl rfl rfl rfl rfl (by kernel_rfl) (Pur.eqA eqt47 rfl rfl hfp hfq) ?_
      refine RegD.tpur (i := 13) rfl rfl rfl rfl (by kernel_rfl) (Pur.pickT rfl rfl) ?_
      refine RegD.tpur (i := 14) rfl rfl rfl rfl (by kernel_rfl) (Pur.asg rfl) ?_
      refine RegD.done (by kernel_rfl) ?_
      refine At.cond rfl rfl (fun q38 => ?_) (fun q38 => ?_)
      · first | (simp only [decide_eq_true_eq, decide_eq_false_iff_not, Bool.not_eq_true', Bool.not_eq_false', ne_eq, Decidable.not_not, Bool.not_eq_true, Bool.not_eq_false] at q38) | (dsimp only at q38) | skip
        refine At.region rfl rfl ?_
        refine Reg.pur rfl rfl rfl rfl (Pur.asg rfl) ?_
        refine Reg.nil ?_
        refine At.ret rfl Try.func77 rfl ?_
        obtain ⟨v, rfl⟩ := lst_var q44
        rw [hei] at q38
        obtain rfl := lst_eqv (of_decide_eq_true q38)
        rw [uniU_leaf hp hq rfl] at hu
        simp only [leafU, if_true, Option.some.injEq] at hu
        subst hu
        exact ⟨rfl, A, cap, Bs, h.ext hE, hs, Md.of_ext hE⟩
      first | (simp only [decide_eq_true_eq, decide_eq_false_iff_not, Bool.not_eq_true', Bool.not_eq_false', ne_eq, Decidable.not_not, Bool.not_eq_true, Bool.not_eq_false] at q38) | (dsimp only at q38) | skip
      refine At.region rfl rfl ?_
      refine Reg.pur rfl rfl rfl rfl (Pur.mv rfl) ?_
      refine Reg.pur rfl rfl rfl rfl (Pur.nilc rfl) ?_
      refine Reg.pur rfl rfl rfl rfl (Pur.fld _ fo47_0 rfl) ?_
      refine Reg.lod rfl rfl rfl rfl (Lod.ld sc3 rfl hBp (hatp 0 (by decide))) ?_
      refine Reg.pur rfl rfl rfl rfl (Pur.eql rfl rfl) ?_
      refine Reg.pur rfl rfl rfl rfl (Pur.asg rfl) ?_
      refine Reg.nil ?_
      refine At.cond rfl rfl (fun q53 => ?_) (fun q53 => ?_)
      · first | (simp only [decide_eq_true_eq, decide_eq_false_iff_not, Bool.not_eq_true', Bool.not_eq_false', ne_eq, Decidable.not_not, Bool.not_eq_true, Bool.not_eq_false] at q53) | (dsimp only at q53) | skip
        obtain ⟨v, rfl⟩ := lst_var q44
        have hvq : q ≠ .var v := fun e => by { rw [hei, e] at q38; simp at q38 }
        have hres : r = bindU s v q := by { rw [uniU_leaf hp hq rfl, leaf_v1 hvq] at hu; exact (Option.some.inj hu).symm }
        refine At.drawE ((Bks.cons hBp.blk (Bks.cons o4_6.blk Bks.nil))) [6] mixed rfl rfl ?_
        refine RegD.tpur (i := 0) rfl rfl rfl rfl (by kernel_rfl) (Pur.mv rfl) ?_
        refine RegD.tpur (i := 1) rfl rfl rfl rfl (by kernel_rfl) (Pur.mv rfl) ?_
        refine RegD.tpur (i := 2) rfl rfl rfl rfl (by kernel_rfl) (Pur.nilc rfl) ?_
        refine RegD.tpur (i := 3) rfl rfl rfl rfl (by kernel_rfl) (Pur.fld _ fo47_1 rfl) ?_
        refine RegD.take (i := 4) rfl rfl rfl rfl (by kernel_rfl) (Bks.cons hBp.blk (Bks.cons o4_6.blk Bks.nil)) (fun H hS => Lod.ld sc3 rfl hS.hd (hatp 1 (by decide))) ?_
        refine RegD.take (i := 5) rfl rfl rfl rfl (by kernel_rfl) (Bks.cons hBp.blk (Bks.cons o4_6.blk Bks.nil)) (fun H hS => Lod.ldn ag25 rfl hS.tl.hd (whole rfl) rfl) ?_
        refine RegD.one (i := 6) (by kernel_rfl) rfl rfl rfl rfl (Does.call rfl (bind_ok (h.ext hE) hs (by omega) hqo hqz (hGq.mono (by omega)) (by rw [ob_some]; omega) (fun x hx ↦ by have := (h.ok x hx).lt; rw [ob_some]; omega))) ?_
        rintro v11_6 H11_6 hP
        refine ⟨fun h => (by cases h), ?_⟩
        refine RegD.tpur (i := 7) rfl rfl rfl rfl (by kernel_rfl) (Pur.asg rfl) ?_
        refine RegD.done (by kernel_rfl) ?_
        refine At.ret rfl Try.func77 rfl ?_
        rw [hres]
        exact StpP.after (Md.of_ext hE) h.lo hgl.2.1 hP
      first | (simp only [decide_eq_true_eq, decide_eq_false_iff_not, Bool.not_eq_true', Bool.not_eq_false', ne_eq, Decidable.not_not, Bool.not_eq_true, Bool.not_eq_false] at q53) | (dsimp only at q53) | skip
      exact absurd q44 q53
    first | (simp only [decide_eq_true_eq, decide_eq_false_iff_not, Bool.not_eq_true', Bool.not_eq_false', ne_eq, Decidable.not_not, Bool.not_eq_true, Bool.not_eq_false] at q44) | (dsimp only at q44) | skip
    refine RegD.skip (i := 6) rfl rfl rfl rfl rfl rfl rfl (by kernel_rfl) ?_
    refine RegD.skip (i := 7) rfl rfl rfl rfl rfl rfl rfl (by kernel_rfl) ?_
    refine RegD.skip (i := 8) rfl rfl rfl rfl rfl rfl rfl (by kernel_rfl) ?_
    refine RegD.skip (i := 9) rfl rfl rfl rfl rfl rfl rfl (by kernel_rfl) ?_
    refine RegD.skip (i := 10) rfl rfl rfl rfl rfl rfl rfl (by kernel_rfl) ?_
    refine RegD.skip (i := 11) rfl rfl rfl rfl rfl rfl rfl (by kernel_rfl) ?_
    refine RegD.skip (i := 12) rfl rfl rfl rfl rfl rfl rfl (by kernel_rfl) ?_
    refine RegD.tpur (i := 13) rfl rfl rfl rfl (by kernel_rfl) (Pur.pickF rfl rfl) ?_
    refine RegD.tpur (i := 14) rfl rfl rfl rfl (by kernel_rfl) (Pur.asg rfl) ?_
    refine RegD.done (by kernel_rfl) ?_
    refine At.condF rfl rfl rfl ?_
    refine At.region rfl rfl ?_
    refine Reg.pur rfl rfl rfl rfl (Pur.mv rfl) ?_
    refine Reg.pur rfl rfl rfl rfl (Pur.nilc rfl) ?_
    refine Reg.pur rfl rfl rfl rfl (Pur.fld _ fo47_0 rfl) ?_
    refine Reg.lod rfl rfl rfl rfl (Lod.ld sc3 rfl hBp (hatp 0 (by decide))) ?_
    refine Reg.pur rfl rfl rfl rfl (Pur.eql rfl rfl) ?_
    refine Reg.pur rfl rfl rfl rfl (Pur.asg rfl) ?_
    refine Reg.nil ?_
    refine At.cond rfl rfl (fun q53 => ?_) (fun q53 => ?_)
    · first | (simp only [decide_eq_true_eq, decide_eq_false_iff_not, Bool.not_eq_true', Bool.not_eq_false', ne_eq, Decidable.not_not, Bool.not_eq_true, Bool.not_eq_false] at q53) | (dsimp only at q53) | skip
      exact absurd q53 q44
    first | (simp only [decide_eq_true_eq, decide_eq_false_iff_not, Bool.not_eq_true', Bool.not_eq_false', ne_eq, Decidable.not_not, Bool.not_eq_true, Bool.not_eq_false] at q53) | (dsimp only at q53) | skip
    refine At.region rfl rfl ?_
    refine Reg.pur rfl rfl rfl rfl (Pur.mv rfl) ?_
    refine Reg.pur rfl rfl rfl rfl (Pur.nilc rfl) ?_
    refine Reg.pur rfl rfl rfl rfl (Pur.fld _ fo47_0 rfl) ?_
    refine Reg.lod rfl rfl rfl rfl (Lod.ld sc3 rfl hBq (hatq 0 (by decide))) ?_
    refine Reg.pur rfl rfl rfl rfl (Pur.eql rfl rfl) ?_
    refine Reg.pur rfl rfl rfl rfl (Pur.asg rfl) ?_
    refine Reg.nil ?_
    refine At.cond rfl rfl (fun q66 => ?_) (fun q66 => ?_)
    · first | (simp only [decide_eq_true_eq, decide_eq_false_iff_not, Bool.not_eq_true', Bool.not_eq_false', ne_eq, Decidable.not_not, Bool.not_eq_true, Bool.not_eq_false] at q66) | (dsimp only at q66) | skip
      obtain ⟨w, rfl⟩ := lst_var q66
      have hres : r = bindU s w p := by { rw [uniU_leaf hp hq (by cases p <;> rfl), leaf_v2 q53] at hu; exact (Option.some.inj hu).symm }
      refine At.drawE ((Bks.cons hBq.blk (Bks.cons o1_6.blk Bks.nil))) [6] mixed rfl rfl ?_
      refine RegD.tpur (i := 0) rfl rfl rfl rfl (by kernel_rfl) (Pur.mv rfl) ?_
      refine RegD.tpur (i := 1) rfl rfl rfl rfl (by kernel_rfl) (Pur.mv rfl) ?_
      refine RegD.tpur (i := 2) rfl rfl rfl rfl (by kernel_rfl) (Pur.nilc rfl) ?_
      refine RegD.tpur (i := 3) rfl rfl rfl rfl (by kernel_rfl) (Pur.fld _ fo47_1 rfl) ?_
      refine RegD.take (i := 4) rfl rfl rfl rfl (by kernel_rfl) (Bks.cons hBq.blk (Bks.cons o1_6.blk Bks.nil)) (fun H hS => Lod.ld sc3 rfl hS.hd (hatq 1 (by decide))) ?_
      refine RegD.take (i := 5) rfl rfl rfl rfl (by kernel_rfl) (Bks.cons hBq.blk (Bks.cons o1_6.blk Bks.nil)) (fun H hS => Lod.ldn ag25 rfl hS.tl.hd (whole rfl) rfl) ?_
      refine RegD.one (i := 6) (by kernel_rfl) rfl rfl rfl rfl (Does.call rfl (bind_ok (h.ext hE) hs (by omega) hpo hpz (hGp.mono (by omega)) (by rw [ob_some]; omega) (fun x hx ↦ by have := (h.ok x hx).lt; rw [ob_some]; omega))) ?_
      rintro v13_6 H13_6 hP
      refine ⟨fun h => (by cases h), ?_⟩
      refine RegD.tpur (i := 7) rfl rfl rfl rfl (by kernel_rfl) (Pur.asg rfl) ?_
      refine RegD.done (by kernel_rfl) ?_
      refine At.ret rfl Try.func77 rfl ?_
      rw [hres]
      exact StpP.after (Md.of_ext hE) h.lo hgl.2.1 hP
    first | (simp only [decide_eq_true_eq, decide_eq_false_iff_not, Bool.not_eq_true', Bool.not_eq_false', ne_eq, Decidable.not_not, Bool.not_eq_true, Bool.not_eq_false] at q66) | (dsimp only at q66) | skip
    refine At.drawE ((Bks.cons hBp.blk (Bks.cons hBq.blk Bks.nil))) [] mixed rfl rfl ?_
    refine RegD.tpur (i := 0) rfl rfl rfl rfl (by kernel_rfl) (Pur.mv rfl) ?_
    refine RegD.tpur (i := 1) rfl rfl rfl rfl (by kernel_rfl) (Pur.nilc rfl) ?_
    refine RegD.tpur (i := 2) rfl rfl rfl rfl (by kernel_rfl) (Pur.fld _ fo47_0 rfl) ?_
    refine RegD.take (i := 3) rfl rfl rfl rfl (by kernel_rfl) (Bks.cons hBp.blk (Bks.cons hBq.blk Bks.nil)) (fun H hS => Lod.ld sc3 rfl hS.hd (hatp 0 (by decide))) ?_
    refine RegD.tpur (i := 4) rfl rfl rfl rfl (by kernel_rfl) (Pur.mv rfl) ?_
    refine RegD.tpur (i := 5) rfl rfl rfl rfl (by kernel_rfl) (Pur.nilc rfl) ?_
    refine RegD.tpur (i := 6) rfl rfl rfl rfl (by kernel_rfl) (Pur.fld _ fo47_0 rfl) ?_
    refine RegD.take (i := 7) rfl rfl rfl rfl (by kernel_rfl) (Bks.cons hBp.blk (Bks.cons hBq.blk Bks.nil)) (fun H hS => Lod.ld sc3 rfl hS.tl.hd (hatq 0 (by decide))) ?_
    refine RegD.tpur (i := 8) rfl rfl rfl rfl (by kernel_rfl) (Pur.neq rfl rfl) ?_
    refine RegD.tpur (i := 9) rfl rfl rfl rfl (by kernel_rfl) (Pur.asg rfl) ?_
    refine RegD.done (by kernel_rfl) ?_
    refine At.cond rfl rfl (fun q79 => ?_) (fun q79 => ?_)
    · first | (simp only [decide_eq_true_eq, decide_eq_false_iff_not, Bool.not_eq_true', Bool.not_eq_false', ne_eq, Decidable.not_not, Bool.not_eq_true, Bool.not_eq_false] at q79) | (dsimp only at q79) | skip
      refine At.region rfl rfl ?_
      refine Reg.pur rfl rfl rfl rfl (Pur.mki (by kernel_rfl) rfl) ?_
      refine Reg.pur rfl rfl rfl rfl (Pur.bld (cs := [_, _]) pl166 zc166 rfl rfl ⟨rfl, rfl, rfl⟩) ?_
      refine Reg.op rfl rfl rfl rfl (Does.box rfl rfl) ?_
      rintro _ H15_2 ⟨rfl, hn15_2⟩
      have z15_2 := hn15_2.size
      replace hE := hE.ext hn15_2.ext
      replace hs := hs.ext hn15_2.ext
      replace hGp := hGp.ext hn15_2.ext
      replace o1_6 := o1_6.ext hn15_2.ext
      replace hGq := hGq.ext hn15_2.ext
      replace o4_6 := o4_6.ext hn15_2.ext
      replace hBp := hBp.ext hn15_2.ext
      replace hBq := hBq.ext hn15_2.ext
      have o15_2 := hn15_2.own
      refine Reg.pur rfl rfl rfl rfl (Pur.mki (by kernel_rfl) rfl) ?_
      refine Reg.pur rfl rfl rfl rfl (Pur.asg rfl) ?_
      refine Reg.nil ?_
      refine At.ret rfl Try.func77 rfl ?_
      obtain ⟨hle, hlf⟩ := leaf_ne (s := s) q53 q66 q79
      rw [uniU_leaf hp hq hlf, hle] at hu
      cases hu
      exact ⟨⟨_, _, _, rfl, o15_2.blk, .inl rfl⟩, .inl rfl, hE.but⟩
    first | (simp only [decide_eq_true_eq, decide_eq_false_iff_not, Bool.not_eq_true', Bool.not_eq_false', ne_eq, Decidable.not_not, Bool.not_eq_true, Bool.not_eq_false] at q79) | (dsimp only at q79) | skip
    refine At.region rfl rfl ?_
    refine Reg.pur rfl rfl rfl rfl (Pur.mv rfl) ?_
    refine Reg.pur rfl rfl rfl rfl (Pur.nilc rfl) ?_
    refine Reg.pur rfl rfl rfl rfl (Pur.fld _ fo47_0 rfl) ?_
    refine Reg.lod rfl rfl rfl rfl (Lod.ld sc3 rfl hBp (hatp 0 (by decide))) ?_
    refine Reg.pur rfl rfl rfl rfl (Pur.neq rfl rfl) ?_
    refine Reg.pur rfl rfl rfl rfl (Pur.asg rfl) ?_
    refine Reg.nil ?_
    refine At.cond rfl rfl (fun q93 => ?_) (fun q93 => ?_)
    · first | (simp only [decide_eq_true_eq, decide_eq_false_iff_not, Bool.not_eq_true', Bool.not_eq_false', ne_eq, Decidable.not_not, Bool.not_eq_true, Bool.not_eq_false] at q93) | (dsimp only at q93) | skip
      refine At.region rfl rfl ?_
      refine Reg.pur rfl rfl rfl rfl (Pur.asg rfl) ?_
      refine Reg.nil ?_
      refine At.ret rfl Try.func77 rfl ?_
      obtain ⟨hle, hlf⟩ := leaf_eq (s := s) q53 q93 q79
      rw [uniU_leaf hp hq hlf, hle] at hu
      cases hu
      exact ⟨rfl, A, cap, Bs, h.ext hE, hs, Md.of_ext hE⟩
    first | (simp only [decide_eq_true_eq, decide_eq_false_iff_not, Bool.not_eq_true', Bool.not_eq_false', ne_eq, Decidable.not_not, Bool.not_eq_true, Bool.not_eq_false] at q93) | (dsimp only at q93) | skip
    obtain ⟨x1, r1, x2, rfl⟩ := lst_fn q93
    obtain ⟨y1, r2, y2, rfl⟩ := lst_fn (q79.symm.trans q93)
    rw [uniU_fn hp hq] at hu
    obtain ⟨w, hw⟩ : ∃ w, uniU n s x1 y1 = some w := by { cases hx : uniU n s x1 y1 with | none => (rw [hx] at hu; cases hu) | some x => exact ⟨x, rfl⟩ }
    rw [hw] at hu
    obtain ⟨lf, lr, lg⟩ := lw_row hpl
    obtain ⟨lh, lr', li⟩ := lw_row hql
    have hps := hpz
    have hqs := hqz
    simp only [Tm.sz] at hps hqs
    have hrp := nod_row hdp hpo.2.1
    have hrq := nod_row hdq hqo.2.1
    clear hei hfp hfq hatp hatq hxp hxq q44 q53 q66 q79 q93
    refine At.region rfl rfl ?_
    refine Reg.op rfl rfl rfl rfl (Does.call rfl (sides_ok (cap := cp) hpo hpz rfl (own_sl (wide9 hNp) (by decide) hGp) o1_6.blk)) ?_
    rintro v18_0 H18_0 ⟨⟨v1, v2, rfl, hT1, hT2⟩, hE18_0⟩
    have z18_0 := hE18_0.lt
    replace hE := hE.ext hE18_0
    replace hs := hs.ext hE18_0
    replace hGp := hGp.ext hE18_0
    replace o1_6 := o1_6.ext hE18_0
    replace hGq := hGq.ext hE18_0
    replace o4_6 := o4_6.ext hE18_0
    replace hBp := hBp.ext hE18_0
    replace hBq := hBq.ext hE18_0
    obtain ⟨B1, k1, rfl, hS1, hb1⟩ := hT1
    obtain ⟨B2, k2, rfl, hS2, hb2⟩ := hT2
    have z_hS1 := hS1.lt
    have z_hS2 := hS2.lt
    refine Reg.pur rfl rfl rfl rfl (Pur.mv rfl) ?_
    refine Reg.pur rfl rfl rfl rfl (Pur.ext rfl rfl) ?_
    refine Reg.pur rfl rfl rfl rfl (Pur.ext rfl rfl) ?_
    refine Reg.op rfl rfl rfl rfl (Does.alloc zc25) ?_
    rintro _ H18_4 ⟨rfl, hn18_4⟩
    have z18_4 := hn18_4.size
    replace hE := hE.ext hn18_4.ext
    replace hs := hs.ext hn18_4.ext
    replace hGp := hGp.ext hn18_4.ext
    replace o1_6 := o1_6.ext hn18_4.ext
    replace hGq := hGq.ext hn18_4.ext
    replace o4_6 := o4_6.ext hn18_4.ext
    replace hBp := hBp.ext hn18_4.ext
    replace hBq := hBq.ext hn18_4.ext
    replace hS1 := hS1.ext hn18_4.ext
    replace hS2 := hS2.ext hn18_4.ext
    have o18_4 := hn18_4.own
    refine Reg.op rfl rfl rfl rfl (Does.alloc zc25) ?_
    rintro _ H18_5 ⟨rfl, hn18_5⟩
    have z18_5 := hn18_5.size
    replace hE := hE.ext hn18_5.ext
    replace hs := hs.ext hn18_5.ext
    replace hGp := hGp.ext hn18_5.ext
    replace o1_6 := o1_6.ext hn18_5.ext
    replace hGq := hGq.ext hn18_5.ext
    replace o4_6 := o4_6.ext hn18_5.ext
    replace hBp := hBp.ext hn18_5.ext
    replace hBq := hBq.ext hn18_5.ext
    replace hS1 := hS1.ext hn18_5.ext
    replace hS2 := hS2.ext hn18_5.ext
    replace o18_4 := o18_4.ext hn18_5.ext
    have o18_5 := hn18_5.own
    refine Reg.op0 rfl rfl rfl (Does.stn ag25 rfl rfl (by first | rfl | exact ones_Is _) (by first | rfl | (simp [*]; done)) o18_4 (by first | decide | (simp; done) | (simp; omega) | omega)) ?_
    rintro _ H18_6 hu18_6
    have z18_6 := hu18_6.size
    replace hE := hE.upw hu18_6 (by omega)
    replace hs := hs.upw hu18_6 (by omega)
    replace hGp := hGp.upw hu18_6 (by omega)
    replace o1_6 := o1_6.upw hu18_6 (by omega)
    replace hGq := hGq.upw hu18_6 (by omega)
    replace o4_6 := o4_6.upw hu18_6 (by omega)
    replace hBp := hBp.upw hu18_6 (by omega)
    replace hBq := hBq.upw hu18_6 (by omega)
    replace hS1 := hS1.upw hu18_6 (by omega)
    replace hS2 := hS2.upw hu18_6 (by omega)
    replace o18_5 := o18_5.upw hu18_6 (by omega)
    replace o18_4 := hu18_6.own
    first | rw [over (by first | rfl | (simp; done))] at o18_4 | skip
    refine Reg.op0 rfl rfl rfl (Does.stn ag25 rfl rfl (by first | rfl | exact ones_Is _) (by first | rfl | (simp [*]; done)) o18_5 (by first | decide | (simp; done) | (simp; omega) | omega)) ?_
    rintro _ H18_7 hu18_7
    have z18_7 := hu18_7.size
    replace hE := hE.upw hu18_7 (by omega)
    replace hs := hs.upw hu18_7 (by omega)
    replace hGp := hGp.upw hu18_7 (by omega)
    replace o1_6 := o1_6.upw hu18_7 (by omega)
    replace hGq := hGq.upw hu18_7 (by omega)
    replace o4_6 := o4_6.upw hu18_7 (by omega)
    replace hBp := hBp.upw hu18_7 (by omega)
    replace hBq := hBq.upw hu18_7 (by omega)
    replace hS1 := hS1.upw hu18_7 (by omega)
    replace hS2 := hS2.upw hu18_7 (by omega)
    replace o18_4 := o18_4.upw hu18_7 (by omega)
    replace o18_5 := hu18_7.own
    first | rw [over (by first | rfl | (simp; done))] at o18_5 | skip
    refine Reg.nil ?_
    refine At.region rfl rfl ?_
    refine Reg.op rfl rfl rfl rfl (Does.call rfl (sides_ok (cap := cq) hqo hqz rfl (own_sl (wide9 hNq) (by decide) hGq) o4_6.blk)) ?_
    rintro v19_0 H19_0 ⟨⟨v1, v2, rfl, hT1, hT2⟩, hE19_0⟩
    have z19_0 := hE19_0.lt
    replace hE := hE.ext hE19_0
    replace hs := hs.ext hE19_0
    replace hGp := hGp.ext hE19_0
    replace o1_6 := o1_6.ext hE19_0
    replace hGq := hGq.ext hE19_0
    replace o4_6 := o4_6.ext hE19_0
    replace hBp := hBp.ext hE19_0
    replace hBq := hBq.ext hE19_0
    replace hS1 := hS1.ext hE19_0
    replace hS2 := hS2.ext hE19_0
    replace o18_4 := o18_4.ext hE19_0
    replace o18_5 := o18_5.ext hE19_0
    obtain ⟨B3, k3, rfl, hS3, hb3⟩ := hT1
    obtain ⟨B4, k4, rfl, hS4, hb4⟩ := hT2
    have z_hS3 := hS3.lt
    have z_hS4 := hS4.lt
    refine Reg.pur rfl rfl rfl rfl (Pur.mv rfl) ?_
    refine Reg.pur rfl rfl rfl rfl (Pur.ext rfl rfl) ?_
    refine Reg.pur rfl rfl rfl rfl (Pur.ext rfl rfl) ?_
    refine Reg.op rfl rfl rfl rfl (Does.alloc zc25) ?_
    rintro _ H19_4 ⟨rfl, hn19_4⟩
    have z19_4 := hn19_4.size
    replace hE := hE.ext hn19_4.ext
    replace hs := hs.ext hn19_4.ext
    replace hGp := hGp.ext hn19_4.ext
    replace o1_6 := o1_6.ext hn19_4.ext
    replace hGq := hGq.ext hn19_4.ext
    replace o4_6 := o4_6.ext hn19_4.ext
    replace hBp := hBp.ext hn19_4.ext
    replace hBq := hBq.ext hn19_4.ext
    replace hS1 := hS1.ext hn19_4.ext
    replace hS2 := hS2.ext hn19_4.ext
    replace o18_4 := o18_4.ext hn19_4.ext
    replace o18_5 := o18_5.ext hn19_4.ext
    replace hS3 := hS3.ext hn19_4.ext
    replace hS4 := hS4.ext hn19_4.ext
    have o19_4 := hn19_4.own
    refine Reg.op rfl rfl rfl rfl (Does.alloc zc25) ?_
    rintro _ H19_5 ⟨rfl, hn19_5⟩
    have z19_5 := hn19_5.size
    replace hE := hE.ext hn19_5.ext
    replace hs := hs.ext hn19_5.ext
    replace hGp := hGp.ext hn19_5.ext
    replace o1_6 := o1_6.ext hn19_5.ext
    replace hGq := hGq.ext hn19_5.ext
    replace o4_6 := o4_6.ext hn19_5.ext
    replace hBp := hBp.ext hn19_5.ext
    replace hBq := hBq.ext hn19_5.ext
    replace hS1 := hS1.ext hn19_5.ext
    replace hS2 := hS2.ext hn19_5.ext
    replace o18_4 := o18_4.ext hn19_5.ext
    replace o18_5 := o18_5.ext hn19_5.ext
    replace hS3 := hS3.ext hn19_5.ext
    replace hS4 := hS4.ext hn19_5.ext
    replace o19_4 := o19_4.ext hn19_5.ext
    have o19_5 := hn19_5.own
    refine Reg.op0 rfl rfl rfl (Does.stn ag25 rfl rfl (by first | rfl | exact ones_Is _) (by first | rfl | (simp [*]; done)) o19_4 (by first | decide | (simp; done) | (simp; omega) | omega)) ?_
    rintro _ H19_6 hu19_6
    have z19_6 := hu19_6.size
    replace hE := hE.upw hu19_6 (by omega)
    replace hs := hs.upw hu19_6 (by omega)
    replace hGp := hGp.upw hu19_6 (by omega)
    replace o1_6 := o1_6.upw hu19_6 (by omega)
    replace hGq := hGq.upw hu19_6 (by omega)
    replace o4_6 := o4_6.upw hu19_6 (by omega)
    replace hBp := hBp.upw hu19_6 (by omega)
    replace hBq := hBq.upw hu19_6 (by omega)
    replace hS1 := hS1.upw hu19_6 (by omega)
    replace hS2 := hS2.upw hu19_6 (by omega)
    replace o18_4 := o18_4.upw hu19_6 (by omega)
    replace o18_5 := o18_5.upw hu19_6 (by omega)
    replace hS3 := hS3.upw hu19_6 (by omega)
    replace hS4 := hS4.upw hu19_6 (by omega)
    replace o19_5 := o19_5.upw hu19_6 (by omega)
    replace o19_4 := hu19_6.own
    first | rw [over (by first | rfl | (simp; done))] at o19_4 | skip
    refine Reg.op0 rfl rfl rfl (Does.stn ag25 rfl rfl (by first | rfl | exact ones_Is _) (by first | rfl | (simp [*]; done)) o19_5 (by first | decide | (simp; done) | (simp; omega) | omega)) ?_
    rintro _ H19_7 hu19_7
    have z19_7 := hu19_7.size
    replace hE := hE.upw hu19_7 (by omega)
    replace hs := hs.upw hu19_7 (by omega)
    replace hGp := hGp.upw hu19_7 (by omega)
    replace o1_6 := o1_6.upw hu19_7 (by omega)
    replace hGq := hGq.upw hu19_7 (by omega)
    replace o4_6 := o4_6.upw hu19_7 (by omega)
    replace hBp := hBp.upw hu19_7 (by omega)
    replace hBq := hBq.upw hu19_7 (by omega)
    replace hS1 := hS1.upw hu19_7 (by omega)
    replace hS2 := hS2.upw hu19_7 (by omega)
    replace o18_4 := o18_4.upw hu19_7 (by omega)
    replace o18_5 := o18_5.upw hu19_7 (by omega)
    replace hS3 := hS3.upw hu19_7 (by omega)
    replace hS4 := hS4.upw hu19_7 (by omega)
    replace o19_4 := o19_4.upw hu19_7 (by omega)
    replace o19_5 := hu19_7.own
    first | rw [over (by first | rfl | (simp; done))] at o19_5 | skip
    refine Reg.nil ?_
    have hgl2 := hgl.2.2.1
    refine At.region rfl rfl ?_
    refine Reg.pur rfl rfl rfl rfl (Pur.mv rfl) ?_
    refine Reg.op rfl rfl rfl rfl (Does.call rfl (types_ok n hw hG (h.ext hE) hs hpo.1 (by omega) hqo.1 (by omega) lf lh hS1 o18_4.blk rfl hS3 o19_4.blk rfl)) ?_
    rintro v20_1 H20_1 hP1
    refine Reg.pur rfl rfl rfl rfl (Pur.asg rfl) ?_
    refine Reg.nil ?_
    refine At.region rfl rfl ?_
    refine Reg.pur rfl rfl rfl rfl (Pur.mv rfl) ?_
    refine Reg.pur rfl rfl rfl rfl (hP1.ne rfl rfl rfl) ?_
    refine Reg.nil ?_
    refine At.cond rfl rfl (fun q110 => ?_) (fun q110 => ?_)
    · first | (simp only [decide_eq_true_eq, decide_eq_false_iff_not, Bool.not_eq_true', Bool.not_eq_false', ne_eq, Decidable.not_not, Bool.not_eq_true, Bool.not_eq_false] at q110) | (dsimp only at q110) | skip
      refine At.region rfl rfl ?_
      refine Reg.pur rfl rfl rfl rfl (Pur.mv rfl) ?_
      refine Reg.pur rfl rfl rfl rfl (Pur.asg rfl) ?_
      refine Reg.nil ?_
      refine At.ret rfl Try.func77 rfl ?_
      obtain ⟨c, rfl⟩ := err_of q110
      cases hu
      exact StpP.after (Md.of_ext hE) h.lo hgl.2.1 hP1
    first | (simp only [decide_eq_true_eq, decide_eq_false_iff_not, Bool.not_eq_true', Bool.not_eq_false', ne_eq, Decidable.not_not, Bool.not_eq_true, Bool.not_eq_false] at q110) | (dsimp only at q110) | skip
    obtain ⟨s1, rfl⟩ := ok_of q110
    dsimp only at hu
    obtain ⟨rfl, A', cap', Bs', hSl1, hs1, hM1⟩ := hP1
    obtain ⟨G1, m1, _⟩ := uniU_good n hG hpo.1 hqo.1 lf lh hw
    have hlen1 : Bs'.length ≤ 8192 := by rw [← hSl1.lenT]; exact G1.len
    have hMd := (Md.of_ext hE).trans hM1
    replace hBp := hBp.via hM1.1 (by omega)
    replace hBq := hBq.via hM1.1 (by omega)
    replace hS2 := hS2.via hM1.1 (fun h0 g hg hh => by omega)
    replace hS4 := hS4.via hM1.1 (fun h0 g hg hh => by omega)
    replace o18_5 := o18_5.via hM1.1 (by omega)
    replace o19_5 := o19_5.via hM1.1 (by omega)
    have hz1 := hM1.1.1
    have hob1 := hM1.2
    have hE := Ext.refl H20_1
    have hgl1 := hSl1.lt
    have z_hE := hE.lt
    have z_hs1 := hs1.lt
    have z_hBp := hBp.lt
    have z_hBq := hBq.lt
    have z_hS2 := hS2.lt
    have z_hS4 := hS4.lt
    have z_o18_5 := o18_5.lt
    have z_o19_5 := o19_5.lt
    refine At.drawE ((Bks.cons hBp.blk (Bks.cons hBq.blk Bks.nil))) [9] mixed rfl rfl ?_
    refine RegD.tpur (i := 0) rfl rfl rfl rfl (by kernel_rfl) (Pur.mv rfl) ?_
    refine RegD.tpur (i := 1) rfl rfl rfl rfl (by kernel_rfl) (Pur.mv rfl) ?_
    refine RegD.tpur (i := 2) rfl rfl rfl rfl (by kernel_rfl) (Pur.nilc rfl) ?_
    refine RegD.tpur (i := 3) rfl rfl rfl rfl (by kernel_rfl) (Pur.fld _ fo47_4 rfl) ?_
    refine RegD.take (i := 4) rfl rfl rfl rfl (by kernel_rfl) (Bks.cons hBp.blk (Bks.cons hBq.blk Bks.nil)) (fun H hS => Lod.ldn ag28 rfl hS.hd hrp (by rw [List.length_map]; exact hpo.2.1)) ?_
    refine RegD.tpur (i := 5) rfl rfl rfl rfl (by kernel_rfl) (Pur.mv rfl) ?_
    refine RegD.tpur (i := 6) rfl rfl rfl rfl (by kernel_rfl) (Pur.nilc rfl) ?_
    refine RegD.tpur (i := 7) rfl rfl rfl rfl (by kernel_rfl) (Pur.fld _ fo47_4 rfl) ?_
    refine RegD.take (i := 8) rfl rfl rfl rfl (by kernel_rfl) (Bks.cons hBp.blk (Bks.cons hBq.blk Bks.nil)) (fun H hS => Lod.ldn ag28 rfl hS.tl.hd hrq (by rw [List.length_map]; exact hqo.2.1)) ?_
    refine RegD.one (i := 9) (by kernel_rfl) rfl rfl rfl rfl (Does.call rfl (rows_ok hSl1 hs1 (by omega) hpo.2.1 hpo.2.2.1 hqo.2.1 hqo.2.2.1 ⟨G1.f0, G1.f1⟩)) ?_
    rintro v23_9 H23_9 hP2
    refine ⟨fun h => (by cases h), ?_⟩
    refine RegD.tpur (i := 10) rfl rfl rfl rfl (by kernel_rfl) (Pur.asg rfl) ?_
    refine RegD.done (by kernel_rfl) ?_
    refine At.region rfl rfl ?_
    refine Reg.pur rfl rfl rfl rfl (Pur.mv rfl) ?_
    refine Reg.pur rfl rfl rfl rfl (hP2.ne rfl rfl rfl) ?_
    refine Reg.nil ?_
    refine At.cond rfl rfl (fun q123 => ?_) (fun q123 => ?_)
    · first | (simp only [decide_eq_true_eq, decide_eq_false_iff_not, Bool.not_eq_true', Bool.not_eq_false', ne_eq, Decidable.not_not, Bool.not_eq_true, Bool.not_eq_false] at q123) | (dsimp only at q123) | skip
      refine At.region rfl rfl ?_
      refine Reg.pur rfl rfl rfl rfl (Pur.mv rfl) ?_
      refine Reg.pur rfl rfl rfl rfl (Pur.asg rfl) ?_
      refine Reg.nil ?_
      refine At.ret rfl Try.func77 rfl ?_
      obtain ⟨c, hc⟩ := err_of q123
      rw [hc] at hu hP2
      cases hu
      exact StpP.after hMd h.lo hgl.2.1 hP2
    first | (simp only [decide_eq_true_eq, decide_eq_false_iff_not, Bool.not_eq_true', Bool.not_eq_false', ne_eq, Decidable.not_not, Bool.not_eq_true, Bool.not_eq_false] at q123) | (dsimp only at q123) | skip
    obtain ⟨s2, hr2⟩ := ok_of q123
    rw [hr2] at hu hP2
    dsimp only at hu
    obtain ⟨rfl, A'', cap'', Bs'', hSl2, hs2, hM2⟩ := hP2
    obtain ⟨G2, m2, _⟩ := rowsU_good G1 hpo.2.1 hpo.2.2.1 hqo.2.1 hqo.2.2.1 (by omega) (by omega) hr2
    replace hS2 := hS2.via hM2.1 (fun h0 g hg hh => by omega)
    replace hS4 := hS4.via hM2.1 (fun h0 g hg hh => by omega)
    replace o18_5 := o18_5.via hM2.1 (by omega)
    replace o19_5 := o19_5.via hM2.1 (by omega)

    refine At.region rfl rfl ?_
    refine Reg.pur rfl rfl rfl rfl (Pur.mv rfl) ?_
    refine Reg.op rfl rfl rfl rfl (Does.call rfl (types_ok n hu G2 hSl2 hs2 hpo.2.2.2 (by omega) hqo.2.2.2 (by omega) (lg.mono (by omega)) (li.mono (by omega)) hS2 o18_5.blk rfl hS4 o19_5.blk rfl)) ?_
    rintro v26_1 H26_1 hP3
    refine Reg.pur rfl rfl rfl rfl (Pur.asg rfl) ?_
    refine Reg.nil ?_
    refine At.ret rfl Try.func77 rfl ?_
    exact StpP.after (hMd.trans hM2) h.lo hgl.2.1 hP3
end Go.Proofs.Ytlfillhffpiffaa

namespace Go.Proofs.Ytlfillhffpiffaa
set_option linter.unusedSimpArgs false
set_option linter.unusedVariables false
set_option maxRecDepth 8000
open Go Go.Fx Go.Proofs

theorem mem_domR {v : Int} {s : List Int} : ∀ {l : List Bt}, Bt.r v s ∈ l → v ∈ domR l
  | .t w u :: l, h => by
    rcases List.mem_cons.1 h with h | h
    · cases h
    · exact mem_domR (l := l) h
  | .r w u :: l, h => by
    rcases List.mem_cons.1 h with h | h
    · cases h; exact List.mem_cons_self
    · exact List.mem_cons_of_mem _ (mem_domR h)
theorem mem_domT {v : Int} {s : Tm} : ∀ {l : List Bt}, Bt.t v s ∈ l → v ∈ domT l
  | .r w u :: l, h => by
    rcases List.mem_cons.1 h with h | h
    · cases h
    · exact mem_domT (l := l) h
  | .t w u :: l, h => by
    rcases List.mem_cons.1 h with h | h
    · cases h; exact List.mem_cons_self
    · exact List.mem_cons_of_mem _ (mem_domT h)
theorem more_of {a b : List Int} (h : ∀ i, i < 4 → a.getD i 0 ≤ b.getD i 0) : moreC a b = false := by
  cases hm : moreC a b with
  | false => rfl
  | true =>
    obtain ⟨i, hi, h1⟩ := more_yes hm
    have := h i hi
    omega
end Go.Proofs.Ytlfillhffpiffaa

namespace Go.Proofs.Ytlfillhffpiffaa
set_option linter.unusedSimpArgs false
set_option linter.unusedVariables false
set_option maxRecDepth 8000
open Go Go.Fx Go.Proofs

theorem sub_nil : ∀ t : Tm, sub [] t = some t
  | .bas _ => rfl
  | .var _ => rfl
  | .fn a r b => by
    simp only [sub, sub_nil a, sub_nil b]
    have : rwS [] r = some r := by unfold rwS; split <;> rfl
    rw [this]
theorem tys_nil {t : Tm} (h : t.sz ≤ 256) : tys [] t = some t := by
  unfold tys
  rw [sub_nil]
  exact if_pos h
theorem good_nil {f : Int} (h0 : 0 ≤ f) (h1 : f ≤ 4096) : Good ([], f) := ⟨inv_nil, invR_nil f, h0, h1⟩
theorem uniR_self {r : List Int} {f : Int} (hm : rowM r = true) (h0 : 0 ≤ f) (h1 : f < 4096) (ht : r.getD 4 0 < f) : uniR r r f = ([], 0) := by
  rw [uniR_yes ⟨hm, hm, h0, h1, ht, ht⟩]
  unfold uniQ
  rw [if_pos rfl, more_of (fun i hi => Int.le_refl _)]
  simp
theorem rowsU_self {r : List Int} {f : Int} (hm : rowM r = true) (h0 : 0 ≤ f) (h1 : f < 4096) (ht : r.getD 4 0 < f) : rowsU ([], f) r r = .ok ([], f) := by
  have e : rwS [] r = some r := by unfold rwS; split <;> rfl
  unfold rowsU
  simp only [e, uniR_self hm h0 h1 ht]
  rw [if_neg (by omega), if_neg (by simp)]
  simp [addAll]
theorem uniU_self : ∀ (n : Nat) (t : Tm) (f : Int), t.ok → t.sz ≤ 256 → Lw f t → 0 ≤ f → f < 4096 → t.sz ≤ n → uniU n ([], f) t t = some (.ok ([], f))
  | 0, t, _, _, _, _, _, _, h => by have := t.sz_pos; omega
  | n + 1, .bas k, f, hk, hz, _, _, _, _ => by
    rw [uniU_leaf (p := .bas k) (q := .bas k) (tys_nil hz) (tys_nil hz) rfl]
    simp [leafU]
  | n + 1, .var k, f, hk, hz, _, _, _, _ => by
    rw [uniU_leaf (p := .var k) (q := .var k) (tys_nil hz) (tys_nil hz) rfl]
    simp [leafU]
  | n + 1, .fn a r b, f, hk, hz, hl, h0, h1, hn => by
    obtain ⟨l1, l2, l3⟩ := lw_row hl
    rw [uniU_fn (tys_nil hz) (tys_nil hz)]
    simp only [Tm.sz] at hz hn
    rw [uniU_self n a f hk.1 (by omega) l1 h0 h1 (by omega)]
    dsimp only
    rw [rowsU_self hk.2.2.1 h0 h1 l2]
    dsimp only
    exact uniU_self n b f hk.2.2.2 (by omega) l3 h0 h1 (by omega)
theorem uniU_new {x f : Int} {t : Tm} (ho : occ x t = false) (hz : t.sz ≤ 256) : uniU 1 ([], f) (.var x) t = some (.ok ([.t x t], f)) := by
  rw [uniU_leaf (p := .var x) (q := t) (tys_nil (t := .var x) (show (1 : Nat) ≤ 256 by decide)) (tys_nil hz) rfl]
  have hb : bindU ([], f) x t = .ok ([.t x t], f) := by unfold bindU; rw [if_neg (by rw [ho]; decide)]; rfl
  cases t with
  | var w =>
    have : ¬ x = w := fun e => by simp [occ, e] at ho
    simp only [leafU, if_neg this, hb]
  | bas k => simp only [leafU, hb]
  | fn a r b => simp only [leafU, hb]
theorem uniU_new' {x f : Int} {t : Tm} (ho : occ x t = false) (hz : t.sz ≤ 256) : uniU 1 ([], f) t (.var x) = some (.ok ([.t x t], f)) ∨ ∃ w, t = .var w ∧ uniU 1 ([], f) t (.var x) = some (.ok ([.t w (.var x)], f)) := by
  rw [uniU_leaf (p := t) (q := .var x) (tys_nil hz) (tys_nil (t := .var x) (show (1 : Nat) ≤ 256 by decide)) (by cases t <;> rfl)]
  have hb : bindU ([], f) x t = .ok ([.t x t], f) := by unfold bindU; rw [if_neg (by rw [ho]; decide)]; rfl
  cases t with
  | var w =>
    have : ¬ w = x := fun e => by simp [occ, e] at ho
    refine .inr ⟨w, rfl, ?_⟩
    have h2 : occ w (.var x) = false := by simp [occ]; exact fun e => this e.symm
    have hb : bindU ([], f) w (.var x) = .ok ([.t w (.var x)], f) := by unfold bindU; rw [if_neg (by rw [h2]; decide)]; rfl
    simp only [leafU, if_neg this, hb]
  | bas k => exact .inl (by simp only [leafU, hb])
  | fn a r b => exact .inl (by simp only [leafU, hb])

theorem find_mem {v : Int} {u : Tm} : ∀ {l : List Bt}, (domT l).Pairwise (· ≠ ·) → Bt.t v u ∈ l → findT l v = some u
  | .r w s :: l, hp, h => by
    rcases List.mem_cons.1 h with h | h
    · cases h
    · exact find_mem (l := l) hp h
  | .t w x :: l, hp, h => by
    simp only [findT]
    rcases List.mem_cons.1 h with h | h
    · cases h; exact if_pos rfl
    · have hp' : (w :: domT l).Pairwise (· ≠ ·) := hp
      rw [List.pairwise_cons] at hp'
      rw [if_neg (hp'.1 v (mem_domT h))]
      exact find_mem hp'.2 h
theorem findR_mem {v : Int} {u : List Int} : ∀ {l : List Bt}, (domR l).Pairwise (· ≠ ·) → Bt.r v u ∈ l → findR l v = some u
  | .t w s :: l, hp, h => by
    rcases List.mem_cons.1 h with h | h
    · cases h
    · exact findR_mem (l := l) hp h
  | .r w x :: l, hp, h => by
    simp only [findR]
    rcases List.mem_cons.1 h with h | h
    · cases h; exact if_pos rfl
    · have hp' : (w :: domR l).Pairwise (· ≠ ·) := hp
      rw [List.pairwise_cons] at hp'
      rw [if_neg (hp'.1 v (mem_domR h))]
      exact findR_mem hp'.2 h
theorem findR_not {v : Int} : ∀ {l : List Bt}, v ∉ domR l → findR l v = none
  | [], _ => rfl
  | .r w u :: l, h => by
    simp only [domR, List.mem_cons, not_or] at h
    simp only [findR]
    rw [if_neg (fun e => h.1 e.symm)]
    exact findR_not h.2
  | .t w s :: l, h => findR_not (l := l) h
theorem asg_R {l : List Bt} {v : Int} (h : v ∉ domR l) : (asg l).R v = [0, 0, 0, 0, v] := by
  unfold asg; dsimp only; rw [findR_not h]
theorem asg_T {l : List Bt} {v : Int} (h : v ∉ domT l) : (asg l).T v = .var v := by
  unfold asg; dsimp only; rw [find_not h]
theorem row_free {l : List Bt} {r : List Int} (hr : r.length = 5) (h : r.getD 4 0 ∉ domR l) : (asg l).row r = r := by
  by_cases h0 : r.getD 4 0 < 0
  · exact Asg.row_no h0
  · rw [Asg.row_yes h0, asg_R h, adR_z hr]
theorem tm_free {l : List Bt} : ∀ {t : Tm}, t.ok → (∀ v ∈ domT l, occ v t = false) → (∀ v ∈ domR l, occR v t = false) → (asg l).tm t = t
  | .bas k, _, _, _ => rfl
  | .var w, _, h1, _ => asg_T (fun hm => by have := h1 w hm; simp [occ] at this)
  | .fn a r b, ho, h1, h2 => by
    simp only [occ, Bool.or_eq_false_iff] at h1
    simp only [occR, Bool.or_eq_false_iff] at h2
    simp only [Asg.tm]
    rw [tm_free ho.1 (fun v hv => (h1 v hv).1) (fun v hv => (h2 v hv).1.1), tm_free ho.2.2.2 (fun v hv => (h1 v hv).2) (fun v hv => (h2 v hv).2),
      row_free ho.2.1 (fun hm => by have := (h2 _ hm).1.2; simp at this)]
theorem resp_self {l : List Bt} {f : Int} (h : Inv l) (k : InvR l f) : Resp (asg l) l := by
  intro b hb
  cases b with
  | t v u =>
    show (asg l).T v = (asg l).tm u
    have h1 : (asg l).T v = u := by unfold asg; dsimp only; rw [find_mem h.dom hb]
    rw [h1, tm_free (h.ok _ hb).1 (fun w hw => h.idem w hw _ _ hb) (fun w hw => k.idem w hw _ hb)]
  | r v s =>
    show (asg l).R v = (asg l).row s
    have h1 : (asg l).R v = s := by unfold asg; dsimp only; rw [findR_mem k.dom hb]
    rw [h1, row_free (h.ok _ hb).1 (fun hm => by have := k.idem _ hm _ hb; simp [Bt.occR] at this)]
theorem uniU_one {n : Nat} {f : Int} {s : Us} {a b p q : Tm} (h0 : 0 ≤ f) (h1 : f ≤ 4096) (ha : a.ok) (hb : b.ok) (hla : Lw f a) (hlb : Lw f b) (h : uniU n ([], f) a b = some (.ok s)) (hp : tys s.1 a = some p) (hq : tys s.1 b = some q) :
    p = q ∧ (∀ v ∈ domT s.1, occ v p = false) ∧ ∀ v ∈ domR s.1, occR v p = false := by
  obtain ⟨G, hf, _⟩ := uniU_good n (good_nil h0 h1) ha hb hla hlb h
  have h2 := ((uniU_snd n (θ := asg s.1) inv_nil ha hb h).2 (resp_self G.inv G.invR)).2
  rw [sub_asg G.inv.ok ha (tys_sub hp).1, sub_asg G.inv.ok hb (tys_sub hq).1] at h2
  exact ⟨h2, fun v hv => G.inv.free (tys_sub hp).1 hv, (sub_low G.invR G.f0 (hla.mono hf) (tys_sub hp).1).2⟩

end Go.Proofs.Ytlfillhffpiffaa

namespace Go.Proofs.Ytlfillhffpiffaa
set_option linter.unusedSimpArgs false
set_option linter.unusedVariables false
set_option maxRecDepth 8000
set_option maxHeartbeats 1000000
open Go Go.Fx Go.Proofs
namespace FactsUniZ
theorem ag25 : ag Try.prog 25 = some 1 := by kernel_rfl
theorem fo122_0 : foff Try.prog 122 0 = some 0 := by kernel_rfl
theorem fo25_0 : foff Try.prog 25 0 = some 0 := by kernel_rfl
theorem pl122 : places Try.prog 122 = some [(0, 1), (1, 1)] := by kernel_rfl
theorem sc22 : sc Try.prog 22 = true := by kernel_rfl
theorem sc23 : sc Try.prog 23 = true := by kernel_rfl
theorem zc122 : zc Try.prog 122 = some [.slice none 0 0, .int .i64 0] := by kernel_rfl
end FactsUniZ
open FactsUniZ

def unfOk (L M : List (List Int)) (f : Int) : Bool := typM L && typM M && decide (0 ≤ f ∧ f < 4096) && !L.any (pLow f) && !M.any (pLow f)
def outU : Except Int Us → Except Int (List Bt)
  | .ok s => .ok s.1
  | .error c => .error c
inductive Unf (L M : List (List Int)) (f : Int) : Except Int (List Bt) → Prop where
  | no (h : unfOk L M f = false) : Unf L M f (.error 1000)
  | yes {t u : Tm} {n : Nat} {x : Except Int Us} (h0 : 0 ≤ f) (h1 : f < 4096) (ht : t.ok) (htz : t.sz ≤ 256) (hL : L = t.enc 0) (hu : u.ok) (huz : u.sz ≤ 256) (hM : M = u.enc 0) (hlt : Lw f t) (hlu : Lw f u) (hx : uniU n ([], f) t u = some x) : Unf L M f (outU x)
theorem unf_tree {L M : List (List Int)} {f : Int} (hL : Nine L) (hM : Nine M) (h : unfOk L M f = true) : 0 ≤ f ∧ f < 4096 ∧ ∃ t u : Tm, t.ok ∧ t.sz ≤ 256 ∧ L = t.enc 0 ∧ u.ok ∧ u.sz ≤ 256 ∧ M = u.enc 0 ∧ Lw f t ∧ Lw f u := by
  unfold unfOk at h
  simp only [Bool.and_eq_true, decide_eq_true_eq, Bool.not_eq_true'] at h
  obtain ⟨⟨⟨⟨h1, h2⟩, h3⟩, h4⟩, h5⟩ := h
  obtain ⟨t, ht, rfl, htz⟩ := typ_dec hL h1
  obtain ⟨u, hu, rfl, huz⟩ := typ_dec hM h2
  exact ⟨h3.1, h3.2, t, u, ht, htz, rfl, hu, huz, rfl, (any_low f t 0 ht).1 h4, (any_low f u 0 hu).1 h5⟩
theorem unf_ex {L M : List (List Int)} (f : Int) (hL : Nine L) (hM : Nine M) : ∃ r, Unf L M f r := by
  cases h : unfOk L M f with
  | false => exact ⟨_, .no h⟩
  | true =>
    obtain ⟨h0, h1, t, u, ht, htz, rfl, hu, huz, rfl, hlt, hlu⟩ := unf_tree hL hM h
    obtain ⟨n, x, hx, _⟩ := uniU_total (s := ([], f)) inv_nil ht hu
    exact ⟨_, .yes h0 h1 ht htz rfl hu huz rfl hlt hlu hx⟩
theorem enc_inj {t u : Tm} (ht : t.ok) (hu : u.ok) (htz : t.sz ≤ 256) (h : t.enc 0 = u.enc 0) : t = u := by
  suffices key : ∀ (t u : Tm) (k : Int), t.ok → u.ok → t.enc k = u.enc k → t = u from key t u 0 ht hu h
  intro t
  induction t with
  | bas k =>
    intro u j _ _ h
    cases u with
    | bas l => cases k <;> cases l <;> first | rfl | (simp [Tm.enc] at h)
    | var v => cases k <;> simp [Tm.enc] at h
    | fn a r b =>
      have := congrArg List.length h
      rw [Tm.enc_len, Tm.enc_len] at this
      have := a.sz_pos; have := b.sz_pos
      simp only [Tm.sz] at *; omega
  | var v =>
    intro u j _ _ h
    cases u with
    | bas l => cases l <;> simp [Tm.enc] at h
    | var w => simp [Tm.enc] at h; rw [h]
    | fn a r b =>
      have := congrArg List.length h
      rw [Tm.enc_len, Tm.enc_len] at this
      have := a.sz_pos; have := b.sz_pos
      simp only [Tm.sz] at *; omega
  | fn a r b iha ihb =>
    intro u j ht hu h
    cases u with
    | bas l =>
      have := congrArg List.length h
      rw [Tm.enc_len, Tm.enc_len] at this
      have := a.sz_pos; have := b.sz_pos
      simp only [Tm.sz] at *; omega
    | var w =>
      have := congrArg List.length h
      rw [Tm.enc_len, Tm.enc_len] at this
      have := a.sz_pos; have := b.sz_pos
      simp only [Tm.sz] at *; omega
    | fn a' r' b' =>
      simp only [Tm.enc] at h
      have hlen := congrArg List.length h
      simp only [List.length_append, Tm.enc_len, List.length_singleton] at hlen
      have h2 := List.append_inj_right' h rfl
      have h1 := List.append_inj_left' h rfl
      simp only [List.cons.injEq, and_true, List.cons_append, List.nil_append] at h2
      have hsz : a.sz = a'.sz := by have := h2.2.2.1; omega
      have e1 := List.append_inj_left h1 (by rw [Tm.enc_len, Tm.enc_len, hsz])
      have e2 := List.append_inj_right h1 (by rw [Tm.enc_len, Tm.enc_len, hsz])
      rw [← hsz] at e2
      rw [iha a' j ht.1 hu.1 e1, ihb b' _ ht.2.2.2 hu.2.2.2 e2, h2.2.2.2.2]
theorem unf_fun {L M : List (List Int)} {f : Int} {r r' : Except Int (List Bt)} (h : Unf L M f r) (h' : Unf L M f r') : r = r' := by
  cases h with
  | no h =>
    cases h' with
    | no _ => rfl
    | @yes t u n x h0 h1 ht htz hL hu huz hM hlt hlu hx =>
      subst hL hM
      unfold unfOk at h
      rw [enc_typ ht htz, enc_typ hu huz, (any_low f t 0 ht).2 hlt, (any_low f u 0 hu).2 hlu, decide_eq_true ⟨h0, h1⟩] at h
      cases h
  | @yes t u n x h0 h1 ht htz hL hu huz hM hlt hlu hx =>
    subst hL hM
    cases h' with
    | no h =>
      unfold unfOk at h
      rw [enc_typ ht htz, enc_typ hu huz, (any_low f t 0 ht).2 hlt, (any_low f u 0 hu).2 hlu, decide_eq_true ⟨h0, h1⟩] at h
      cases h
    | @yes t' u' n' x' h0' h1' ht' htz' hL' hu' huz' hM' hlt' hlu' hx' =>
      obtain rfl := enc_inj ht ht' htz hL'
      obtain rfl := enc_inj hu hu' huz hM'
      have e : x = x' := by
        rcases Nat.le_total n n' with hn | hn
        · have := uniU_le hn hx; rw [this] at hx'; exact Option.some.inj hx'
        · have := uniU_le hn hx'; rw [this] at hx; exact (Option.some.inj hx).symm
      subst e; rfl
theorem belowL_ok {L : List (List Int)} (h9 : Nine L) (hm : L.length ≤ 100000) {f : Int} {A : Option Addr} {cap yb yo : Nat} {cy : List Value} (hcy : cy[yo]? = some (.slice A L.length cap)) {H : Heap} (hS : SlT H Is 9 (.slice A L.length cap) L) (hY : Blk H yb cy) :
    Ret Try.prog 75 [ptr yb yo, I f] H (fun v H' => v = .bool (!L.any (pLow f)) ∧ Ext H H') := by
  refine Ret.of_at (N := 12) Try.call75 Try.func75 rfl rfl rfl ?_
  have hE := Ext.refl H
  have z_hE := hE.lt
  have z_hY := hY.lt
  refine At.region rfl rfl ?_
  refine Reg.op rfl rfl rfl rfl (Does.box rfl rfl) ?_
  rintro _ H0_0 ⟨rfl, hn0_0⟩
  have z0_0 := hn0_0.size
  replace hE := hE.ext hn0_0.ext
  replace hY := hY.ext hn0_0.ext
  have o0_0 := hn0_0.own
  refine Reg.pur rfl rfl rfl rfl (Pur.asg rfl) ?_
  refine Reg.nil ?_
  refine At.region rfl rfl ?_
  refine Reg.pur rfl rfl rfl rfl (Pur.mv rfl) ?_
  refine Reg.pur rfl rfl rfl rfl (Pur.nilc rfl) ?_
  refine Reg.pur rfl rfl rfl rfl (Pur.fld _ fo25_0 rfl) ?_
  refine Reg.lod rfl rfl rfl rfl (Lod.ld sc23 rfl hY hcy) ?_
  refine Reg.pur rfl rfl rfl rfl (Pur.mkf rfl rfl) ?_
  refine Reg.op rfl rfl rfl rfl (Does.call rfl (containsFuncN_ok h9 (hS.ext hE) hm 101 (pLow f) (fun H' x hx hE' ↦ lowF_ok (h9 x hx) (o0_0.blk.ext hE')))) ?_
  rintro _ H1_5 ⟨rfl, hE1_5⟩
  have z1_5 := hE1_5.lt
  replace hE := hE.ext hE1_5
  replace hY := hY.ext hE1_5
  replace o0_0 := o0_0.ext hE1_5
  refine Reg.pur rfl rfl rfl rfl (Pur.not rfl) ?_
  refine Reg.pur rfl rfl rfl rfl (Pur.asg rfl) ?_
  refine Reg.nil ?_
  refine At.ret rfl Try.func75 rfl ?_
  exact ⟨rfl, hE⟩
def UnfQ (H : Heap) (r : Except Int (List Bt)) (v : Value) (H' : Heap) : Prop :=
  match r with
  | .ok Ts => ∃ A cap Bs sb, v = .tuple #[.slice A Bs.length cap, I 0] ∧ Slv H' H.size sb A cap Bs Ts
  | .error c => v = .tuple #[.slice none 0 0, I c]
def UnfP (H : Heap) (r : Except Int (List Bt)) (v : Value) (H' : Heap) : Prop := UnfQ H r v H' ∧ Ext H H'
def codU : Except Int (List Bt) → Int
  | .ok _ => 0
  | .error c => c
def bndU : Except Int (List Bt) → List Bt
  | .ok l => l
  | .error _ => []
theorem typM256 {L : List (List Int)} (h : typM L = true) : L.length ≤ 256 := by
  unfold typM at h; simp only [Bool.and_eq_true, decide_eq_true_eq] at h; exact h.1.1.2
theorem slv_nil {H : Heap} {lo sb : Nat} (h : lo ≤ sb) : Slv H lo sb none 0 [] [] :=
  ⟨OwnS.nil _ _ _ _, (fun b hb => by cases hb), (fun b hb => by cases hb), (fun b hb => by cases hb), (fun i j hi => by cases hi), rfl, (fun b hb => by cases hb), by show (-1 : Int) ≠ sb; omega, h, by simp⟩
theorem UnfQ.un {H H' : Heap} {r : Except Int (List Bt)} {v : Value} (h : UnfQ H r v H') : ∃ A cap Bs sb, v = .tuple #[.slice A Bs.length cap, I (codU r)] ∧ Slv H' H.size sb A cap Bs (bndU r) := by
  cases r with
  | ok Ts => exact h
  | error c => exact ⟨none, 0, [], H.size, h, slv_nil (Nat.le_refl _)⟩
theorem StpP.err {H H' : Heap} {lo sb : Nat} {A : Option Addr} {r : Except Int Us} {v : Value} (h : StpP H lo sb A r v H') : ErrV H' v (match r with | .ok _ => none | .error c => some c) := by
  cases r with
  | ok u => exact h.1
  | error c => exact ⟨h.1, h.2.1⟩
theorem unify_ok {L M : List (List Int)} (hL : Nine L) (hM : Nine M) {f : Int} {A1 A2 : Option Addr} {c1 c2 : Nat} {H : Heap} (hS1 : SlT H Is 9 (.slice A1 L.length c1) L) (hS2 : SlT H Is 9 (.slice A2 M.length c2) M) (hl : L.length ≤ 9223372036854775807) (hm : M.length ≤ 9223372036854775807) {r : Except Int (List Bt)} (hr : Unf L M f r) :
    Ret Try.prog 43 [Ty A1 L.length c1, Ty A2 M.length c2, I f] H (UnfP H r) := by
  refine Ret.of_at (N := 49) Try.call43 Try.func43 rfl rfl rfl ?_
  have hE := Ext.refl H
  have z_hE := hE.lt
  refine At.region rfl rfl ?_
  refine Reg.op rfl rfl rfl rfl (Does.box rfl rfl) ?_
  rintro _ H0_0 ⟨rfl, hn0_0⟩
  have z0_0 := hn0_0.size
  replace hE := hE.ext hn0_0.ext
  have o0_0 := hn0_0.own
  refine Reg.op rfl rfl rfl rfl (Does.box rfl rfl) ?_
  rintro _ H0_1 ⟨rfl, hn0_1⟩
  have z0_1 := hn0_1.size
  replace hE := hE.ext hn0_1.ext
  replace o0_0 := o0_0.ext hn0_1.ext
  have o0_1 := hn0_1.own
  refine Reg.pur rfl rfl rfl rfl (Pur.asg rfl) ?_
  refine Reg.pur rfl rfl rfl rfl (Pur.asg rfl) ?_
  refine Reg.nil ?_
  refine At.region rfl rfl ?_
  refine Reg.lod rfl rfl rfl rfl (Lod.ldn ag25 rfl o0_0.blk (whole rfl) rfl) ?_
  refine Reg.op rfl rfl rfl rfl (Does.call rfl (typMay_ok L hL (hS1.ext hE) hl)) ?_
  rintro _ H1_1 ⟨rfl, hE1_1⟩
  have z1_1 := hE1_1.lt
  replace hE := hE.ext hE1_1
  replace o0_0 := o0_0.ext hE1_1
  replace o0_1 := o0_1.ext hE1_1
  refine Reg.pur rfl rfl rfl rfl (Pur.not rfl) ?_
  refine Reg.pur rfl rfl rfl rfl (Pur.mv rfl) ?_
  refine Reg.case 13 rfl (fun q13 => ?_) (fun q13 => ?_)
  · first | (simp only [decide_eq_true_eq, decide_eq_false_iff_not, Bool.not_eq_true', Bool.not_eq_false', ne_eq, Decidable.not_not, Bool.not_eq_true, Bool.not_eq_false] at q13) | (dsimp only at q13) | skip
    refine Reg.skip rfl rfl rfl rfl rfl rfl rfl ?_
    refine Reg.skip rfl rfl rfl rfl rfl rfl rfl ?_
    refine Reg.skip rfl rfl rfl rfl rfl rfl rfl ?_
    refine Reg.pur rfl rfl rfl rfl (Pur.pickT rfl rfl) ?_
    refine Reg.pur rfl rfl rfl rfl (Pur.mv rfl) ?_
    refine Reg.skip rfl rfl rfl rfl rfl rfl rfl ?_
    refine Reg.skip rfl rfl rfl rfl rfl rfl rfl ?_
    refine Reg.pur rfl rfl rfl rfl (Pur.pickT rfl rfl) ?_
    refine Reg.pur rfl rfl rfl rfl (Pur.mv rfl) ?_
    refine Reg.skip rfl rfl rfl rfl rfl rfl rfl ?_
    refine Reg.skip rfl rfl rfl rfl rfl rfl rfl ?_
    refine Reg.pur rfl rfl rfl rfl (Pur.pickT rfl rfl) ?_
    refine Reg.pur rfl rfl rfl rfl (Pur.mv rfl) ?_
    refine Reg.skip rfl rfl rfl rfl rfl rfl rfl ?_
    refine Reg.skip rfl rfl rfl rfl rfl rfl rfl ?_
    refine Reg.skip rfl rfl rfl rfl rfl rfl rfl ?_
    refine Reg.pur rfl rfl rfl rfl (Pur.pickT rfl rfl) ?_
    refine Reg.pur rfl rfl rfl rfl (Pur.mv rfl) ?_
    refine Reg.skip rfl rfl rfl rfl rfl rfl rfl ?_
    refine Reg.skip rfl rfl rfl rfl rfl rfl rfl ?_
    refine Reg.skip rfl rfl rfl rfl rfl rfl rfl ?_
    refine Reg.pur rfl rfl rfl rfl (Pur.pickT rfl rfl) ?_
    refine Reg.nil ?_
    refine At.condT rfl rfl rfl ?_
    refine At.region rfl rfl ?_
    refine Reg.pur rfl rfl rfl rfl (Pur.asg rfl) ?_
    refine Reg.pur rfl rfl rfl rfl (Pur.asg rfl) ?_
    refine Reg.nil ?_
    refine At.ret rfl Try.func43 rfl ?_
    obtain rfl := unf_fun hr (.no (by unfold unfOk; generalize L.any (pLow f) = x1 at *; generalize M.any (pLow f) = x2 at *; simp_all; try omega))
    exact ⟨rfl, hE⟩
  first | (simp only [decide_eq_true_eq, decide_eq_false_iff_not, Bool.not_eq_true', Bool.not_eq_false', ne_eq, Decidable.not_not, Bool.not_eq_true, Bool.not_eq_false] at q13) | (dsimp only at q13) | skip
  refine Reg.glod rfl rfl rfl rfl rfl rfl (Lod.ldn ag25 rfl o0_1.blk (whole rfl) rfl) ?_
  refine Reg.gop rfl rfl rfl rfl rfl rfl (Does.call rfl (typMay_ok M hM (hS2.ext hE) hm)) ?_
  rintro _ H1_5 ⟨rfl, hE1_5⟩
  have z1_5 := hE1_5.lt
  replace hE := hE.ext hE1_5
  replace o0_0 := o0_0.ext hE1_5
  replace o0_1 := o0_1.ext hE1_5
  refine Reg.gpur rfl rfl rfl rfl rfl rfl (Pur.not rfl) ?_
  refine Reg.pur rfl rfl rfl rfl (Pur.pickF rfl rfl) ?_
  refine Reg.pur rfl rfl rfl rfl (Pur.mv rfl) ?_
  refine Reg.case 18 rfl (fun q18 => ?_) (fun q18 => ?_)
  · first | (simp only [decide_eq_true_eq, decide_eq_false_iff_not, Bool.not_eq_true', Bool.not_eq_false', ne_eq, Decidable.not_not, Bool.not_eq_true, Bool.not_eq_false] at q18) | (dsimp only at q18) | skip
    refine Reg.skip rfl rfl rfl rfl rfl rfl rfl ?_
    refine Reg.skip rfl rfl rfl rfl rfl rfl rfl ?_
    refine Reg.pur rfl rfl rfl rfl (Pur.pickT rfl rfl) ?_
    refine Reg.pur rfl rfl rfl rfl (Pur.mv rfl) ?_
    refine Reg.skip rfl rfl rfl rfl rfl rfl rfl ?_
    refine Reg.skip rfl rfl rfl rfl rfl rfl rfl ?_
    refine Reg.pur rfl rfl rfl rfl (Pur.pickT rfl rfl) ?_
    refine Reg.pur rfl rfl rfl rfl (Pur.mv rfl) ?_
    refine Reg.skip rfl rfl rfl rfl rfl rfl rfl ?_
    refine Reg.skip rfl rfl rfl rfl rfl rfl rfl ?_
    refine Reg.skip rfl rfl rfl rfl rfl rfl rfl ?_
    refine Reg.pur rfl rfl rfl rfl (Pur.pickT rfl rfl) ?_
    refine Reg.pur rfl rfl rfl rfl (Pur.mv rfl) ?_
    refine Reg.skip rfl rfl rfl rfl rfl rfl rfl ?_
    refine Reg.skip rfl rfl rfl rfl rfl rfl rfl ?_
    refine Reg.skip rfl rfl rfl rfl rfl rfl rfl ?_
    refine Reg.pur rfl rfl rfl rfl (Pur.pickT rfl rfl) ?_
    refine Reg.nil ?_
    refine At.condT rfl rfl rfl ?_
    refine At.region rfl rfl ?_
    refine Reg.pur rfl rfl rfl rfl (Pur.asg rfl) ?_
    refine Reg.pur rfl rfl rfl rfl (Pur.asg rfl) ?_
    refine Reg.nil ?_
    refine At.ret rfl Try.func43 rfl ?_
    obtain rfl := unf_fun hr (.no (by unfold unfOk; generalize L.any (pLow f) = x1 at *; generalize M.any (pLow f) = x2 at *; simp_all; try omega))
    exact ⟨rfl, hE⟩
  first | (simp only [decide_eq_true_eq, decide_eq_false_iff_not, Bool.not_eq_true', Bool.not_eq_false', ne_eq, Decidable.not_not, Bool.not_eq_true, Bool.not_eq_false] at q18) | (dsimp only at q18) | skip
  refine Reg.gpur rfl rfl rfl rfl rfl rfl (Pur.mv rfl) ?_
  refine Reg.gpur rfl rfl rfl rfl rfl rfl (Pur.lss rfl rfl) ?_
  refine Reg.pur rfl rfl rfl rfl (Pur.pickF rfl rfl) ?_
  refine Reg.pur rfl rfl rfl rfl (Pur.mv rfl) ?_
  refine Reg.case 22 rfl (fun q22 => ?_) (fun q22 => ?_)
  · first | (simp only [decide_eq_true_eq, decide_eq_false_iff_not, Bool.not_eq_true', Bool.not_eq_false', ne_eq, Decidable.not_not, Bool.not_eq_true, Bool.not_eq_false] at q22) | (dsimp only at q22) | skip
    refine Reg.skip rfl rfl rfl rfl rfl rfl rfl ?_
    refine Reg.skip rfl rfl rfl rfl rfl rfl rfl ?_
    refine Reg.pur rfl rfl rfl rfl (Pur.pickT rfl rfl) ?_
    refine Reg.pur rfl rfl rfl rfl (Pur.mv rfl) ?_
    refine Reg.skip rfl rfl rfl rfl rfl rfl rfl ?_
    refine Reg.skip rfl rfl rfl rfl rfl rfl rfl ?_
    refine Reg.skip rfl rfl rfl rfl rfl rfl rfl ?_
    refine Reg.pur rfl rfl rfl rfl (Pur.pickT rfl rfl) ?_
    refine Reg.pur rfl rfl rfl rfl (Pur.mv rfl) ?_
    refine Reg.skip rfl rfl rfl rfl rfl rfl rfl ?_
    refine Reg.skip rfl rfl rfl rfl rfl rfl rfl ?_
    refine Reg.skip rfl rfl rfl rfl rfl rfl rfl ?_
    refine Reg.pur rfl rfl rfl rfl (Pur.pickT rfl rfl) ?_
    refine Reg.nil ?_
    refine At.condT rfl rfl rfl ?_
    refine At.region rfl rfl ?_
    refine Reg.pur rfl rfl rfl rfl (Pur.asg rfl) ?_
    refine Reg.pur rfl rfl rfl rfl (Pur.asg rfl) ?_
    refine Reg.nil ?_
    refine At.ret rfl Try.func43 rfl ?_
    obtain rfl := unf_fun hr (.no (by unfold unfOk; generalize L.any (pLow f) = x1 at *; generalize M.any (pLow f) = x2 at *; simp_all; try omega))
    exact ⟨rfl, hE⟩
  first | (simp only [decide_eq_true_eq, decide_eq_false_iff_not, Bool.not_eq_true', Bool.not_eq_false', ne_eq, Decidable.not_not, Bool.not_eq_true, Bool.not_eq_false] at q22) | (dsimp only at q22) | skip
  refine Reg.gpur rfl rfl rfl rfl rfl rfl (Pur.mv rfl) ?_
  refine Reg.gpur rfl rfl rfl rfl rfl rfl (Pur.geq rfl rfl) ?_
  refine Reg.pur rfl rfl rfl rfl (Pur.pickF rfl rfl) ?_
  refine Reg.pur rfl rfl rfl rfl (Pur.mv rfl) ?_
  refine Reg.case 26 rfl (fun q26 => ?_) (fun q26 => ?_)
  · first | (simp only [decide_eq_true_eq, decide_eq_false_iff_not, Bool.not_eq_true', Bool.not_eq_false', ne_eq, Decidable.not_not, Bool.not_eq_true, Bool.not_eq_false] at q26) | (dsimp only at q26) | skip
    refine Reg.skip rfl rfl rfl rfl rfl rfl rfl ?_
    refine Reg.skip rfl rfl rfl rfl rfl rfl rfl ?_
    refine Reg.skip rfl rfl rfl rfl rfl rfl rfl ?_
    refine Reg.pur rfl rfl rfl rfl (Pur.pickT rfl rfl) ?_
    refine Reg.pur rfl rfl rfl rfl (Pur.mv rfl) ?_
    refine Reg.skip rfl rfl rfl rfl rfl rfl rfl ?_
    refine Reg.skip rfl rfl rfl rfl rfl rfl rfl ?_
    refine Reg.skip rfl rfl rfl rfl rfl rfl rfl ?_
    refine Reg.pur rfl rfl rfl rfl (Pur.pickT rfl rfl) ?_
    refine Reg.nil ?_
    refine At.condT rfl rfl rfl ?_
    refine At.region rfl rfl ?_
    refine Reg.pur rfl rfl rfl rfl (Pur.asg rfl) ?_
    refine Reg.pur rfl rfl rfl rfl (Pur.asg rfl) ?_
    refine Reg.nil ?_
    refine At.ret rfl Try.func43 rfl ?_
    obtain rfl := unf_fun hr (.no (by unfold unfOk; generalize L.any (pLow f) = x1 at *; generalize M.any (pLow f) = x2 at *; simp_all; try omega))
    exact ⟨rfl, hE⟩
  first | (simp only [decide_eq_true_eq, decide_eq_false_iff_not, Bool.not_eq_true', Bool.not_eq_false', ne_eq, Decidable.not_not, Bool.not_eq_true, Bool.not_eq_false] at q26) | (dsimp only at q26) | skip
  refine Reg.gpur rfl rfl rfl rfl rfl rfl (Pur.mv rfl) ?_
  refine Reg.gop rfl rfl rfl rfl rfl rfl (Does.call rfl (belowL_ok hL (by have := typM256 q13; omega) rfl (hS1.ext hE) o0_0.blk)) ?_
  rintro _ H1_18 ⟨rfl, hE1_18⟩
  have z1_18 := hE1_18.lt
  replace hE := hE.ext hE1_18
  replace o0_0 := o0_0.ext hE1_18
  replace o0_1 := o0_1.ext hE1_18
  refine Reg.gpur rfl rfl rfl rfl rfl rfl (Pur.not rfl) ?_
  refine Reg.pur rfl rfl rfl rfl (Pur.pickF rfl rfl) ?_
  refine Reg.pur rfl rfl rfl rfl (Pur.mv rfl) ?_
  refine Reg.case 31 rfl (fun q31 => ?_) (fun q31 => ?_)
  · first | (simp only [decide_eq_true_eq, decide_eq_false_iff_not, Bool.not_eq_true', Bool.not_eq_false', ne_eq, Decidable.not_not, Bool.not_eq_true, Bool.not_eq_false] at q31) | (dsimp only at q31) | skip
    refine Reg.skip rfl rfl rfl rfl rfl rfl rfl ?_
    refine Reg.skip rfl rfl rfl rfl rfl rfl rfl ?_
    refine Reg.skip rfl rfl rfl rfl rfl rfl rfl ?_
    refine Reg.pur rfl rfl rfl rfl (Pur.pickT rfl rfl) ?_
    refine Reg.nil ?_
    refine At.condT rfl rfl rfl ?_
    refine At.region rfl rfl ?_
    refine Reg.pur rfl rfl rfl rfl (Pur.asg rfl) ?_
    refine Reg.pur rfl rfl rfl rfl (Pur.asg rfl) ?_
    refine Reg.nil ?_
    refine At.ret rfl Try.func43 rfl ?_
    obtain rfl := unf_fun hr (.no (by unfold unfOk; generalize L.any (pLow f) = x1 at *; generalize M.any (pLow f) = x2 at *; simp_all; try omega))
    exact ⟨rfl, hE⟩
  first | (simp only [decide_eq_true_eq, decide_eq_false_iff_not, Bool.not_eq_true', Bool.not_eq_false', ne_eq, Decidable.not_not, Bool.not_eq_true, Bool.not_eq_false] at q31) | (dsimp only at q31) | skip
  refine Reg.gpur rfl rfl rfl rfl rfl rfl (Pur.mv rfl) ?_
  refine Reg.gop rfl rfl rfl rfl rfl rfl (Does.call rfl (belowL_ok hM (by have := typM256 q18; omega) rfl (hS2.ext hE) o0_1.blk)) ?_
  rintro _ H1_23 ⟨rfl, hE1_23⟩
  have z1_23 := hE1_23.lt
  replace hE := hE.ext hE1_23
  replace o0_0 := o0_0.ext hE1_23
  replace o0_1 := o0_1.ext hE1_23
  refine Reg.gpur rfl rfl rfl rfl rfl rfl (Pur.not rfl) ?_
  refine Reg.pur rfl rfl rfl rfl (Pur.pickF rfl rfl) ?_
  refine Reg.nil ?_
  refine At.cond rfl rfl (fun q35 => ?_) (fun q35 => ?_)
  · first | (simp only [decide_eq_true_eq, decide_eq_false_iff_not, Bool.not_eq_true', Bool.not_eq_false', ne_eq, Decidable.not_not, Bool.not_eq_true, Bool.not_eq_false] at q35) | (dsimp only at q35) | skip
    refine At.region rfl rfl ?_
    refine Reg.pur rfl rfl rfl rfl (Pur.asg rfl) ?_
    refine Reg.pur rfl rfl rfl rfl (Pur.asg rfl) ?_
    refine Reg.nil ?_
    refine At.ret rfl Try.func43 rfl ?_
    obtain rfl := unf_fun hr (.no (by unfold unfOk; generalize L.any (pLow f) = x1 at *; generalize M.any (pLow f) = x2 at *; simp_all; try omega))
    exact ⟨rfl, hE⟩
  first | (simp only [decide_eq_true_eq, decide_eq_false_iff_not, Bool.not_eq_true', Bool.not_eq_false', ne_eq, Decidable.not_not, Bool.not_eq_true, Bool.not_eq_false] at q35) | (dsimp only at q35) | skip
  have hok : unfOk L M f = true := by unfold unfOk; generalize L.any (pLow f) = x1 at *; generalize M.any (pLow f) = x2 at *; simp_all; try omega
  obtain ⟨h0, h1, t, u, ht, htz, rfl, hu, huz, rfl, hlt, hlu⟩ := unf_tree hL hM hok
  obtain ⟨n, x, hx, _⟩ := uniU_total (s := ([], f)) inv_nil ht hu
  obtain rfl := unf_fun hr (.yes h0 h1 ht htz rfl hu huz rfl hlt hlu hx)
  refine At.region rfl rfl ?_
  refine Reg.pur rfl rfl rfl rfl (Pur.mv rfl) ?_
  refine Reg.pur rfl rfl rfl rfl (Pur.bld (cs := [_, _]) pl122 zc122 rfl rfl ⟨rfl, rfl, rfl⟩) ?_
  refine Reg.op rfl rfl rfl rfl (Does.box rfl rfl) ?_
  rintro _ H3_2 ⟨rfl, hn3_2⟩
  have z3_2 := hn3_2.size
  replace hE := hE.ext hn3_2.ext
  replace o0_0 := o0_0.ext hn3_2.ext
  replace o0_1 := o0_1.ext hn3_2.ext
  have o3_2 := hn3_2.own
  refine Reg.pur rfl rfl rfl rfl (Pur.asg rfl) ?_
  refine Reg.nil ?_
  refine At.region rfl rfl ?_
  refine Reg.pur rfl rfl rfl rfl (Pur.mv rfl) ?_
  refine Reg.op rfl rfl rfl rfl (Does.call rfl (types_ok n (lo := H.size) hx (good_nil h0 (by omega)) (slv_nil (by omega)) o3_2 ht htz hu huz hlt hlu (hS1.ext hE) o0_0.blk rfl (hS2.ext hE) o0_1.blk rfl)) ?_
  rintro v4_1 H4_1 hP

  refine Reg.op rfl rfl rfl rfl (Does.call rfl (told_ok hP.err)) ?_
  rintro _ H4_2 ⟨rfl, hE4_2⟩
  have z4_2 := hE4_2.lt
  refine Reg.pur rfl rfl rfl rfl (Pur.asg rfl) ?_
  refine Reg.nil ?_
  refine At.region rfl rfl ?_
  refine Reg.pur rfl rfl rfl rfl (Pur.mv rfl) ?_
  refine Reg.pur rfl rfl rfl rfl (Pur.neq rfl rfl) ?_
  refine Reg.nil ?_
  refine At.cond rfl rfl (fun q43 => ?_) (fun q43 => ?_)
  · first | (simp only [decide_eq_true_eq, decide_eq_false_iff_not, Bool.not_eq_true', Bool.not_eq_false', ne_eq, Decidable.not_not, Bool.not_eq_true, Bool.not_eq_false] at q43) | (dsimp only at q43) | skip
    refine At.region rfl rfl ?_
    refine Reg.pur rfl rfl rfl rfl (Pur.mv rfl) ?_
    refine Reg.pur rfl rfl rfl rfl (Pur.asg rfl) ?_
    refine Reg.pur rfl rfl rfl rfl (Pur.asg rfl) ?_
    refine Reg.nil ?_
    refine At.ret rfl Try.func43 rfl ?_
    cases x with
    | ok u => exact absurd rfl q43
    | error c => exact ⟨rfl, (hE.via hP.2.2 (fun g hg h => by omega)).ext hE4_2⟩
  first | (simp only [decide_eq_true_eq, decide_eq_false_iff_not, Bool.not_eq_true', Bool.not_eq_false', ne_eq, Decidable.not_not, Bool.not_eq_true, Bool.not_eq_false] at q43) | (dsimp only at q43) | skip
  obtain ⟨s, rfl⟩ : ∃ s, x = .ok s := by { cases x with | ok s => exact ⟨s, rfl⟩ | error c => (exfalso; have h3 := hP.2.1; change c = 0 at q43; omega) }
  obtain ⟨_, A', cap', Bs', hSl, hs', hMd⟩ := hP
  refine At.region rfl rfl ?_
  refine Reg.pur rfl rfl rfl rfl (Pur.mv rfl) ?_
  refine Reg.pur rfl rfl rfl rfl (Pur.nilc rfl) ?_
  refine Reg.pur rfl rfl rfl rfl (Pur.fld _ fo122_0 rfl) ?_
  refine Reg.lod rfl rfl rfl rfl (Lod.ld sc22 rfl (hs'.blk.ext hE4_2) rfl) ?_
  refine Reg.pur rfl rfl rfl rfl (Pur.asg rfl) ?_
  refine Reg.pur rfl rfl rfl rfl (Pur.asg rfl) ?_
  refine Reg.nil ?_
  refine At.ret rfl Try.func43 rfl ?_
  exact ⟨⟨A', cap', Bs', _, rfl, hSl.ext hE4_2⟩, (hE.via hMd.1 (fun g hg h => by rw [ob_none] at h; omega)).ext hE4_2⟩
end Go.Proofs.Ytlfillhffpiffaa

namespace Go.Proofs.Ytlfillhffpiffaa
set_option linter.unusedSimpArgs false
set_option linter.unusedVariables false
set_option maxRecDepth 8000
set_option maxHeartbeats 1000000
open Go Go.Fx Go.Proofs
namespace FactsUniAA
theorem ag25 : ag Try.prog 25 = some 1 := by kernel_rfl
theorem ag28 : ag Try.prog 28 = some 5 := by kernel_rfl
theorem es22 : esz Try.prog 22 = some 8 := by kernel_rfl
theorem fo49_0 : foff Try.prog 49 0 = some 0 := by kernel_rfl
theorem fo49_2 : foff Try.prog 49 2 = some 2 := by kernel_rfl
theorem isl22 : isSl Try.prog 22 = true := by kernel_rfl
theorem pl25 : places Try.prog 25 = some [(0, 1)] := by kernel_rfl
theorem pl47 : places Try.prog 47 = some [(0, 1), (1, 1), (2, 1), (3, 1), (4, 5)] := by kernel_rfl
theorem sc3 : sc Try.prog 3 = true := by kernel_rfl
theorem slA23 : slA Try.prog 23 = some (47, 9) := by kernel_rfl
theorem zc25 : zc Try.prog 25 = some [.slice none 0 0] := by kernel_rfl
theorem zc47 : zc Try.prog 47 = some [.int .i64 0, .int .i64 0, .int .i64 0, .int .i64 0, .int .i64 0, .int .i64 0, .int .i64 0, .int .i64 0, .int .i64 0] := by kernel_rfl
end FactsUniAA
open FactsUniAA

theorem sp_ld {c : List Value} {x : Bd} {i : Nat} (hd : (c.drop (i * 8)).take 8 = encB x) : (c.drop (0 + (i : Int).toNat * 8 + 2)).take 1 = [x.sl] := by
  rw [Int.toNat_natCast, Nat.zero_add, ← List.drop_drop, take_mid hd (by decide)]
  rfl
theorem spoilBinds_ok {H : Heap} {lo sb cap : Nat} {A : Option Addr} {Bs : List Bd} {Ts : List Bt} (h : Slv H lo sb A cap Bs Ts) :
    Ret Try.prog 45 [.slice A Bs.length cap] H (fun _ H' => But (fun g => lo ≤ g) H H') := by
  have hinv : Bs.length = 0 ∨ ∃ g c, A = some ⟨g, 0, none⟩ ∧ lo ≤ g ∧ Own H g c ∧ Bs.length * 8 ≤ c.length ∧ ∀ j (hj : j < Bs.length), 0 ≤ j → (c.drop (j * 8)).take 8 = encB Bs[j] ∧ Gw H lo 9 Bs[j].A Bs[j].cap Bs[j].nodes.length (Bs[j].nodes.flatMap Is) := by
    by_cases h0 : Bs.length = 0
    · exact .inl h0
    · obtain ⟨g, c, rfl, hT, hc, hcl, hcap, hlg⟩ := h.blk (by omega)
      refine .inr ⟨g, c, rfl, hlg, hT.own, ?_, fun j hj _ => ⟨row_rd h.wide hj hc, h.wr _ (List.getElem_mem hj)⟩⟩
      rw [hcl]; omega
  have hlen := h.len
  refine Ret.of_at (N := 25) Try.call45 Try.func45 rfl rfl rfl ?_
  have hE := Ext.refl H
  refine At.region rfl rfl ?_
  refine Reg.pur rfl rfl rfl rfl (Pur.asg rfl) ?_
  refine Reg.nil ?_
  refine At.loop (σ := Nat) (fun i => [(2, I i), (0, .slice A Bs.length cap)]) (fun i H' => i ≤ Bs.length ∧ But (fun g => lo ≤ g) H H' ∧ (Bs.length = 0 ∨ ∃ g c, A = some ⟨g, 0, none⟩ ∧ lo ≤ g ∧ Own H' g c ∧ Bs.length * 8 ≤ c.length ∧ ∀ j (hj : j < Bs.length), i ≤ j → (c.drop (j * 8)).take 8 = encB Bs[j] ∧ Gw H' lo 9 Bs[j].A Bs[j].cap Bs[j].nodes.length (Bs[j].nodes.flatMap Is))) (fun i => Bs.length - i) 0 rfl ⟨rfl, rfl, trivial⟩ ⟨by omega, But.refl _ _, hinv⟩ ?_
  clear hinv hE
  rintro i H3 ⟨hi, hbut, hinv⟩ ih

  refine At.region rfl rfl ?_
  refine Reg.pur rfl rfl rfl rfl (Pur.mv rfl) ?_
  refine Reg.pur rfl rfl rfl rfl (Pur.mv rfl) ?_
  refine Reg.pur rfl rfl rfl rfl (Pur.lenS isl22 rfl) ?_
  refine Reg.pur rfl rfl rfl rfl (Pur.lss rfl rfl) ?_
  refine Reg.nil ?_
  refine At.cond rfl rfl (fun q6 => ?_) (fun q6 => ?_)
  · first | (simp only [decide_eq_true_eq, decide_eq_false_iff_not, Bool.not_eq_true', Bool.not_eq_false', ne_eq, Decidable.not_not, Bool.not_eq_true, Bool.not_eq_false] at q6) | (dsimp only at q6) | skip
    have hi' : i < Bs.length := by omega
    obtain ⟨g, c, rfl, hlg, ho, hcl, hall⟩ := hinv.resolve_left (by omega)
    obtain ⟨hd, hgw⟩ := hall i hi' (Nat.le_refl _)
    have hok := h.ok _ (List.getElem_mem hi')
    have hoff := h.off _ (List.getElem_mem hi')
    rw [ob_some] at hoff
    have hgl := hgw.lt
    have z_ho := ho.lt
    refine At.region rfl rfl ?_
    refine Reg.pur rfl rfl rfl rfl (Pur.mv rfl) ?_
    refine Reg.pur rfl rfl rfl rfl (Pur.mv rfl) ?_
    refine Reg.pur rfl rfl rfl rfl (Pur.idx _ es22 rfl rfl (by omega) (by omega)) ?_
    refine Reg.pur rfl rfl rfl rfl (Pur.fld _ fo49_2 rfl) ?_
    refine Reg.lod rfl rfl rfl rfl (Lod.ldn ag25 rfl ho.blk (sp_ld hd) rfl) ?_
    refine Reg.op rfl rfl rfl rfl (Does.call rfl (spoilG_ok hok.nine hok.max hgw)) ?_
    rintro w3_5 H3_5 hbut3_5
    have z3_5 := hbut3_5.lt
    replace ho := ho.via hbut3_5 (by first | omega | (intro g; omega) | (intro g hg; omega) | (intro g hg h; omega))
    refine Reg.nil ?_
    refine At.region rfl rfl ?_
    refine Reg.pur rfl rfl rfl rfl (Pur.mv rfl) ?_
    refine Reg.pur rfl rfl rfl rfl (Pur.mv rfl) ?_
    refine Reg.pur rfl rfl rfl rfl (Pur.mv rfl) ?_
    refine Reg.pur rfl rfl rfl rfl (Pur.mv rfl) ?_
    refine Reg.pur rfl rfl rfl rfl (Pur.idx _ es22 rfl rfl (by omega) (by omega)) ?_
    refine Reg.pur rfl rfl rfl rfl (Pur.fld _ fo49_0 rfl) ?_
    refine Reg.lod rfl rfl rfl rfl (Lod.ld sc3 rfl ho.blk (by rw [Int.toNat_natCast, Nat.zero_add]; exact at_tk hd (by decide) rfl)) ?_
    refine Reg.pur rfl rfl rfl rfl (Pur.xor rfl rfl) ?_
    refine Reg.pur rfl rfl rfl rfl (Pur.idx _ es22 rfl rfl (by omega) (by omega)) ?_
    refine Reg.pur rfl rfl rfl rfl (Pur.fld _ fo49_0 rfl) ?_
    refine Reg.op0 rfl rfl rfl (Does.st sc3 rfl rfl rfl ho (by rw [Int.toNat_natCast]; omega)) ?_
    rintro _ H4_10 hu4_10
    have z4_10 := hu4_10.size
    replace ho := hu4_10.own
    refine Reg.nil ?_
    refine At.region rfl rfl ?_
    refine Reg.pur rfl rfl rfl rfl (Pur.mv rfl) ?_
    first | refine Reg.pur rfl rfl rfl rfl (Pur.add64 rfl rfl (by omega)) ?_ | refine Reg.pur rfl rfl rfl rfl (Pur.add64 rfl rfl (by assumption)) ?_ | refine Reg.pur rfl rfl rfl rfl (Pur.add rfl rfl) ?_
    refine Reg.pur rfl rfl rfl rfl (Pur.asg rfl) ?_
    refine Reg.nil ?_
    have hb1 : But (fun g => lo ≤ g) H3 H4_10 := (hbut3_5.mono (fun b hb e => by omega)).trans (hu4_10.but.mono (fun b hb e => by rw [e]; exact hlg))
    refine At.via (ih (i + 1) _ ⟨by omega, hbut.trans hb1, .inr ⟨g, _, rfl, hlg, ho, by rw [List.length_set]; exact hcl, fun j hj hij => ?_⟩⟩ (by omega)) ⟨rfl, rfl, trivial⟩
    obtain ⟨hdj, hgj⟩ := hall j hj (by omega)
    have hoj := h.off _ (List.getElem_mem hj)
    rw [ob_some] at hoj
    have hdis := h.dis i j hi' hj (by omega)
    refine ⟨?_, (hgj.via hbut3_5 (fun h0 g' hg' hh => by omega)).upw hu4_10 (by omega)⟩
    rw [List.drop_set_of_lt (by rw [Int.toNat_natCast]; omega)]
    exact hdj
  first | (simp only [decide_eq_true_eq, decide_eq_false_iff_not, Bool.not_eq_true', Bool.not_eq_false', ne_eq, Decidable.not_not, Bool.not_eq_true, Bool.not_eq_false] at q6) | (dsimp only at q6) | skip
  refine At.fall rfl Try.func45 rfl ?_
  exact hbut
theorem v10_ok (k : Int) (H : Heap) : Ret Try.prog 47 [I k] H (fun v H' => TyF H.size H' v ((Tm.var k).enc 0) ∧ Ext H H') := by
  refine Ret.of_at (N := 7) Try.call47 Try.func47 rfl rfl rfl ?_
  have hE := Ext.refl H
  refine At.region rfl rfl ?_
  refine Reg.op rfl rfl rfl rfl (Does.alloc zc25) ?_
  rintro _ H0_0 ⟨rfl, hn0_0⟩
  have z0_0 := hn0_0.size
  replace hE := hE.ext hn0_0.ext
  have o0_0 := hn0_0.own
  refine Reg.nil ?_
  refine At.region rfl rfl ?_
  refine Reg.pur rfl rfl rfl rfl (Pur.mv rfl) ?_
  refine Reg.pur rfl rfl rfl rfl (Pur.bld (cs := [_, _, _, _, _, _, _, _, _]) pl47 zc47 rfl rfl ⟨rfl, rfl, rfl, rfl, rfl, rfl, rfl, rfl, rfl, rfl⟩) ?_
  refine Reg.op rfl rfl rfl rfl (Does.bslA ([[_, _, _, _, _, _, _, _, _]]) slA23 rfl rfl rfl rfl rfl rfl) ?_
  rintro _ H1_2 ⟨rfl, hp1_2⟩
  have hn1_2 := New.of_eq hp1_2
  have z1_2 := hn1_2.size
  replace hE := hE.ext hn1_2.ext
  replace o0_0 := o0_0.ext hn1_2.ext
  have o1_2 := hn1_2.own
  refine Reg.pur rfl rfl rfl rfl (Pur.bld (cs := [_]) pl25 zc25 rfl rfl ⟨rfl, rfl⟩) ?_
  refine Reg.op0 rfl rfl rfl (Does.stn ag25 rfl rfl (by first | rfl | exact ones_Is _) (by first | rfl | (simp [*]; done)) o0_0 (by first | decide | (simp; done) | (simp; omega) | omega)) ?_
  rintro _ H1_4 hu1_4
  have z1_4 := hu1_4.size
  replace hE := hE.upw hu1_4 (by omega)
  replace o1_2 := o1_2.upw hu1_4 (by omega)
  replace o0_0 := hu1_4.own
  first | rw [over (by first | rfl | (simp; done))] at o0_0 | skip
  refine Reg.nil ?_
  refine At.retC rfl Try.func47 ⟨_, _, _, _, rfl, rfl, ⟨_, o0_0.blk, .inr ⟨_, _, ag25, (by first | exact whole rfl | exact whole (by simp [*])), (by first | rfl | simp [*]), rfl⟩⟩, rfl⟩ ?_
  exact ⟨⟨_, 1, rfl, (sl_own (L := [vNode k]) (wide9 (nine_lit rfl)) (by decide) o1_2 (Nat.le_of_ble_eq_true rfl)), .inr (by rw [ob_some]; omega)⟩, hE⟩
theorem arr_enc {a b : Tm} {r : List Int} (ha : a.sz ≤ 1000) (hb : b.sz ≤ 1000) : arr2 (a.enc 0) r (b.enc 0) = (Tm.fn a r b).enc 0 := by
  unfold arr2 arrN
  rw [Tm.enc_len, Tm.enc_len, Tm.enc_mov b 0 a.sz (by omega) (by omega) (by omega) (by omega) (by omega) (by omega)]
  simp only [Tm.enc]
  rw [show (0 : Int) + a.sz - 1 = (a.sz : Int) - 1 by omega, show (0 : Int) + a.sz + b.sz - 1 = (a.sz : Int) + b.sz - 1 by omega]
theorem fun10_ok {a b : Tm} {r : List Int} (ha : a.ok) (hb : b.ok) (hr : r.length = 5) (haz : a.sz ≤ 1000) (hbz : b.sz ≤ 1000) {A B : Option Addr} {ca cb : Nat} {H : Heap} (hS : SlT H Is 9 (.slice A (a.enc 0).length ca) (a.enc 0)) (hT : SlT H Is 9 (.slice B (b.enc 0).length cb) (b.enc 0)) :
    Ret Try.prog 48 [Ty A (a.enc 0).length ca, .agg (Is r).toArray, Ty B (b.enc 0).length cb] H (fun v H' => TyF H.size H' v ((Tm.fn a r b).enc 0) ∧ Ext H H') := by
  have h9a := a.enc_nine 0 ha
  have h9b := b.enc_nine 0 hb
  have hln := a.enc_len 0
  have hln' := b.enc_len 0
  have hr' : (Is r).length = 5 := by simp [hr]
  have h9n : Nine (arr2 (a.enc 0) r (b.enc 0)) := nine_app (nine_app h9a (nine_mov h9b)) (nine1 (by simp [arrN, hr]))
  refine Ret.of_at (N := 11) Try.call48 Try.func48 rfl rfl rfl ?_
  have hE := Ext.refl H
  refine At.region rfl rfl ?_
  refine Reg.op rfl rfl rfl rfl (Does.box rfl rfl) ?_
  rintro _ H0_0 ⟨rfl, hn0_0⟩
  have z0_0 := hn0_0.size
  replace hE := hE.ext hn0_0.ext
  have o0_0 := hn0_0.own
  refine Reg.op rfl rfl rfl rfl (Does.box rfl rfl) ?_
  rintro _ H0_1 ⟨rfl, hn0_1⟩
  have z0_1 := hn0_1.size
  replace hE := hE.ext hn0_1.ext
  replace o0_0 := o0_0.ext hn0_1.ext
  have o0_1 := hn0_1.own
  refine Reg.op rfl rfl rfl rfl (Does.box rfl rfl) ?_
  rintro _ H0_2 ⟨rfl, hn0_2⟩
  have z0_2 := hn0_2.size
  replace hE := hE.ext hn0_2.ext
  replace o0_0 := o0_0.ext hn0_2.ext
  replace o0_1 := o0_1.ext hn0_2.ext
  have o0_2 := hn0_2.own
  refine Reg.op rfl rfl rfl rfl (Does.alloc zc25) ?_
  rintro _ H0_3 ⟨rfl, hn0_3⟩
  have z0_3 := hn0_3.size
  replace hE := hE.ext hn0_3.ext
  replace o0_0 := o0_0.ext hn0_3.ext
  replace o0_1 := o0_1.ext hn0_3.ext
  replace o0_2 := o0_2.ext hn0_3.ext
  have o0_3 := hn0_3.own
  refine Reg.nil ?_
  refine At.region rfl rfl ?_
  refine Reg.lod rfl rfl rfl rfl (Lod.ldn ag25 rfl o0_0.blk (whole rfl) rfl) ?_
  refine Reg.lod rfl rfl rfl rfl (Lod.ldn ag28 rfl o0_1.blk (whole hr') hr') ?_
  refine Reg.lod rfl rfl rfl rfl (Lod.ldn ag25 rfl o0_2.blk (whole rfl) rfl) ?_
  refine Reg.op rfl rfl rfl rfl (Does.call rfl (arrow_ok h9a h9b hr (hS.ext hE) (hT.ext hE) (by omega) (by omega))) ?_
  rintro v1_3 H1_3 ⟨⟨A10, cap10, rfl, hgA⟩, hE1_3⟩
  have z1_3 := hE1_3.lt
  replace hE := hE.ext hE1_3
  replace o0_0 := o0_0.ext hE1_3
  replace o0_1 := o0_1.ext hE1_3
  replace o0_2 := o0_2.ext hE1_3
  replace o0_3 := o0_3.ext hE1_3
  have z_hgA := hgA.lt
  refine Reg.op0 rfl rfl rfl (Does.stn ag25 rfl rfl (by first | rfl | exact ones_Is _) (by first | rfl | (simp [*]; done)) o0_3 (by first | decide | (simp; done) | (simp; omega) | omega)) ?_
  rintro _ H1_4 hu1_4
  have z1_4 := hu1_4.size
  replace hE := hE.upw hu1_4 (by omega)
  replace o0_0 := o0_0.upw hu1_4 (by omega)
  replace o0_1 := o0_1.upw hu1_4 (by omega)
  replace o0_2 := o0_2.upw hu1_4 (by omega)
  replace hgA := hgA.upw hu1_4 (by omega)
  replace o0_3 := hu1_4.own
  first | rw [over (by first | rfl | (simp; done))] at o0_3 | skip
  refine Reg.nil ?_
  refine At.retC rfl Try.func48 ⟨_, _, _, _, rfl, rfl, ⟨_, o0_3.blk, .inr ⟨_, _, ag25, (by first | exact whole rfl | exact whole (by simp [*])), (by first | rfl | simp [*]), rfl⟩⟩, rfl⟩ ?_
  rw [← arr_enc haz hbz]
  exact ⟨⟨A10, cap10, rfl, own_sl (wide9 h9n) (by decide) hgA, by have := (own_sl (wide9 h9n) (by decide) hgA).lt; have := hgA.lt; omega⟩, hE⟩
end Go.Proofs.Ytlfillhffpiffaa

namespace Go.Proofs.Ytlfillhffpiffaa
set_option linter.unusedSimpArgs false
set_option linter.unusedVariables false
set_option maxRecDepth 8000
set_option maxHeartbeats 1000000
open Go Go.Fx Go.Proofs
namespace FactsUniAB
theorem ag25 : ag Try.prog 25 = some 1 := by kernel_rfl
theorem ag28 : ag Try.prog 28 = some 5 := by kernel_rfl
theorem eqt28 : eqT Try.prog 28 = some [.int .i64, .int .i64, .int .i64, .int .i64, .int .i64] := by kernel_rfl
theorem es22 : esz Try.prog 22 = some 8 := by kernel_rfl
theorem fo49_0 : foff Try.prog 49 0 = some 0 := by kernel_rfl
theorem fo49_1 : foff Try.prog 49 1 = some 1 := by kernel_rfl
theorem fo49_2 : foff Try.prog 49 2 = some 2 := by kernel_rfl
theorem fo49_3 : foff Try.prog 49 3 = some 3 := by kernel_rfl
theorem isl22 : isSl Try.prog 22 = true := by kernel_rfl
theorem mixed : Try.prog.follows .mixedOrders = true := by kernel_rfl
theorem pl25 : places Try.prog 25 = some [(0, 1)] := by kernel_rfl
theorem pl28 : places Try.prog 28 = some [(0, 4), (4, 1)] := by kernel_rfl
theorem pl47 : places Try.prog 47 = some [(0, 1), (1, 1), (2, 1), (3, 1), (4, 5)] := by kernel_rfl
theorem sc3 : sc Try.prog 3 = true := by kernel_rfl
theorem sc4 : sc Try.prog 4 = true := by kernel_rfl
theorem slA23 : slA Try.prog 23 = some (47, 9) := by kernel_rfl
theorem zc25 : zc Try.prog 25 = some [.slice none 0 0] := by kernel_rfl
theorem zc28 : zc Try.prog 28 = some [.int .i64 0, .int .i64 0, .int .i64 0, .int .i64 0, .int .i64 0] := by kernel_rfl
theorem zc47 : zc Try.prog 47 = some [.int .i64 0, .int .i64 0, .int .i64 0, .int .i64 0, .int .i64 0, .int .i64 0, .int .i64 0, .int .i64 0, .int .i64 0] := by kernel_rfl
end FactsUniAB
open FactsUniAB

abbrev pureR : List Int := [0, 0, 0, 0, -1]
abbrev awA : Tm := .fn (.var 0) [0, 0, 0, 0, 0] (.var 1)
abbrev awB2 : Tm := .fn (.bas false) pureR (.var 0)
abbrev awS : List Bt := [.t 0 (.bas false), .r 0 pureR, .t 1 (.bas false)]
theorem awU1 : uniU 3 ([], 3) awA awB2 = some (.ok (awS, 3)) := by kernel_rfl
theorem awU2 : uniU 2 ([], 3) (.var 0) awA = some (.error 1002) := by kernel_rfl
theorem awU3 : uniU 2 ([], 3) (.bas false) awA = some (.error 1001) := by kernel_rfl
theorem awOkA : awA.ok := ⟨⟨by decide, by decide⟩, rfl, rfl, ⟨by decide, by decide⟩⟩
theorem awOkB : awB2.ok := ⟨trivial, rfl, rfl, ⟨by decide, by decide⟩⟩
theorem lw_of {f : Int} {t : Tm} (h : t.ok) (k : (t.enc 0).any (pLow f) = false) : Lw f t := (any_low f t 0 h).1 k
theorem awUnf1 : Unf (awA.enc 0) (awB2.enc 0) 3 (.ok awS) := .yes (by decide) (by decide) awOkA (by decide) rfl awOkB (by decide) rfl (lw_of awOkA rfl) (lw_of awOkB rfl) awU1
theorem v0_ok : (Tm.var 0).ok := ⟨by decide, by decide⟩
theorem b0_ok : (Tm.bas false).ok := trivial
theorem awUnf2 : Unf ((Tm.var 0).enc 0) (awA.enc 0) 3 (.error 1002) := .yes (by decide) (by decide) v0_ok (by decide) rfl awOkA (by decide) rfl (lw_of v0_ok rfl) (lw_of awOkA rfl) awU2
theorem awUnf3 : Unf ((Tm.bas false).enc 0) (awA.enc 0) 3 (.error 1001) := .yes (by decide) (by decide) b0_ok (by decide) rfl awOkA (by decide) rfl (lw_of b0_ok rfl) (lw_of awOkA rfl) awU3
theorem awUnf4 : Unf (awA.enc 0) (awB2.enc 0) 0 (.error 1000) := .no rfl
theorem three_pl {Bs : List Bd} {x y z : Int × Bool × List (List Int) × List Int} (h : Bs.map pl = [x, y, z]) : ∃ a b c, Bs = [a, b, c] ∧ pl a = x ∧ pl b = y ∧ pl c = z := by
  match Bs, h with
  | [a, b, c], h =>
    simp only [List.map_cons, List.map_nil, List.cons.injEq, and_true] at h
    exact ⟨a, b, c, rfl, h.1, h.2.1, h.2.2⟩
  | [], h => simp at h
  | [_], h => simp at h
  | [_, _], h => simp at h
  | _ :: _ :: _ :: _ :: _, h => simp at h
theorem bd_of {a : Bd} {v : Int} {r : Bool} {L : List (List Int)} {row : List Int} (h : pl a = (v, r, L, row)) : ∃ A cap, a = ⟨v, r, A, cap, L, row⟩ := by
  obtain ⟨v', r', A, cap, L', row'⟩ := a
  simp only [pl, Prod.mk.injEq] at h
  obtain ⟨rfl, rfl, rfl, rfl⟩ := h
  exact ⟨A, cap, rfl⟩
theorem awake10_ok (H : Heap) : Ret Try.prog 46 [] H (fun v H' => v = .bool true ∧ Ext H H') := by
  refine Ret.of_at (N := 124) Try.call46 Try.func46 rfl rfl rfl ?_
  have hE := Ext.refl H
  refine At.region rfl rfl ?_
  refine Reg.pur rfl rfl rfl rfl (Pur.asg rfl) ?_
  refine Reg.nil ?_
  refine At.region rfl rfl ?_
  refine Reg.pur rfl rfl rfl rfl (Pur.bld (cs := [_, _, _, _, _]) pl28 zc28 rfl rfl ⟨rfl, rfl, rfl, rfl, rfl, rfl⟩) ?_
  refine Reg.op rfl rfl rfl rfl (Does.alloc zc28) ?_
  rintro _ H1_1 ⟨rfl, hn1_1⟩
  have z1_1 := hn1_1.size
  replace hE := hE.ext hn1_1.ext
  have o1_1 := hn1_1.own
  refine Reg.op0 rfl rfl rfl (Does.stn ag28 rfl rfl (by first | rfl | exact ones_Is _) (by first | rfl | (simp [*]; done)) o1_1 (by first | decide | (simp; done) | (simp; omega) | omega)) ?_
  rintro _ H1_2 hu1_2
  have z1_2 := hu1_2.size
  replace hE := hE.upw hu1_2 (by omega)
  replace o1_1 := hu1_2.own
  first | rw [over (by first | rfl | (simp; done))] at o1_1 | skip
  refine Reg.nil ?_
  refine At.region rfl rfl ?_
  refine Reg.op rfl rfl rfl rfl (Does.call rfl (v10_ok 0 _)) ?_
  rintro v2_0 H2_0 ⟨⟨Aa, ca, rfl, hSa, hfa⟩, hE2_0⟩
  have z2_0 := hE2_0.lt
  replace hE := hE.ext hE2_0
  replace o1_1 := o1_1.ext hE2_0
  have z_hSa := hSa.lt
  refine Reg.pur rfl rfl rfl rfl (Pur.bld (cs := [_, _, _, _, _]) pl28 zc28 rfl rfl ⟨rfl, rfl, rfl, rfl, rfl, rfl⟩) ?_
  refine Reg.op rfl rfl rfl rfl (Does.call rfl (v10_ok 1 _)) ?_
  rintro v2_2 H2_2 ⟨⟨Ab, cb, rfl, hSb, hfb⟩, hE2_2⟩
  have z2_2 := hE2_2.lt
  replace hE := hE.ext hE2_2
  replace o1_1 := o1_1.ext hE2_2
  replace hSa := hSa.ext hE2_2
  have z_hSb := hSb.lt
  refine Reg.op rfl rfl rfl rfl (Does.call rfl (fun10_ok (a := .var 0) (b := .var 1) (r := [0, 0, 0, 0, 0]) awOkA.1 awOkA.2.2.2 rfl (by decide) (by decide) hSa hSb)) ?_
  rintro v2_3 H2_3 ⟨⟨Ac, cc, rfl, hSc, hfc⟩, hE2_3⟩
  have z2_3 := hE2_3.lt
  replace hE := hE.ext hE2_3
  replace o1_1 := o1_1.ext hE2_3
  replace hSa := hSa.ext hE2_3
  replace hSb := hSb.ext hE2_3
  have z_hSc := hSc.lt
  refine Reg.op rfl rfl rfl rfl (Does.alloc zc25) ?_
  rintro _ H2_4 ⟨rfl, hn2_4⟩
  have z2_4 := hn2_4.size
  replace hE := hE.ext hn2_4.ext
  replace o1_1 := o1_1.ext hn2_4.ext
  replace hSa := hSa.ext hn2_4.ext
  replace hSb := hSb.ext hn2_4.ext
  replace hSc := hSc.ext hn2_4.ext
  have o2_4 := hn2_4.own
  refine Reg.op0 rfl rfl rfl (Does.stn ag25 rfl rfl (by first | rfl | exact ones_Is _) (by first | rfl | (simp [*]; done)) o2_4 (by first | decide | (simp; done) | (simp; omega) | omega)) ?_
  rintro _ H2_5 hu2_5
  have z2_5 := hu2_5.size
  replace hE := hE.upw hu2_5 (by omega)
  replace o1_1 := o1_1.upw hu2_5 (by omega)
  replace hSa := hSa.upw hu2_5 (by omega)
  replace hSb := hSb.upw hu2_5 (by omega)
  replace hSc := hSc.upw hu2_5 (by omega)
  replace o2_4 := hu2_5.own
  first | rw [over (by first | rfl | (simp; done))] at o2_4 | skip
  refine Reg.nil ?_
  refine At.drawJ (σ := Nat × Option Addr × Nat) (fun (b3, Ae, ce) => [(3, ptr b3 0), (2, ptr H2_3.size 0), (1, ptr H.size 0)]) (fun (b3, Ae, ce) H' => Own H' b3 [.slice Ae (awB2.enc 0).length ce] ∧ SlT H' Is 9 (.slice Ae (awB2.enc 0).length ce) (awB2.enc 0) ∧ Own H' H2_3.size [.slice Ac (awA.enc 0).length cc] ∧ SlT H' Is 9 (.slice Ac (awA.enc 0).length cc) (awA.enc 0) ∧ Own H' H.size (Is pureR) ∧ Ext H H') ((Bks.cons o1_1.blk Bks.nil)) [5, 7] mixed rfl rfl ?_ (fun s H_r3 hs => ?_)
  · refine RegD.tpur (i := 0) rfl rfl rfl rfl (by kernel_rfl) (Pur.bld (cs := [_, _, _, _, _, _, _, _, _]) pl47 zc47 rfl rfl ⟨rfl, rfl, rfl, rfl, rfl, rfl, rfl, rfl, rfl, rfl⟩) ?_
    refine RegD.take (i := 3) rfl rfl rfl rfl (by kernel_rfl) (Bks.cons o1_1.blk Bks.nil) (fun H hS => Lod.ldn ag28 rfl hS.hd rfl rfl) ?_
    refine RegD.fork3 (i := 1) (j := 4) (k := 6) (by kernel_rfl) ?_ ?_ ?_
    · refine RegOp.one (i := 1) rfl rfl rfl rfl (Does.bslA ([Is (bNode false)]) slA23 rfl rfl rfl rfl rfl rfl) ?_
      rintro _ H3_1 ⟨rfl, hp3_1⟩
      have hn3_1 := New.of_eq hp3_1
      have z3_1 := hn3_1.size
      replace hE := hE.ext hn3_1.ext
      replace o1_1 := o1_1.ext hn3_1.ext
      replace hSa := hSa.ext hn3_1.ext
      replace hSb := hSb.ext hn3_1.ext
      replace hSc := hSc.ext hn3_1.ext
      replace o2_4 := o2_4.ext hn3_1.ext
      have o3_1 := hn3_1.own
      refine ⟨fun _ _ => (Bks.cons o1_1.blk Bks.nil), ?_⟩
      refine RegD.tpur (i := 2) rfl rfl rfl rfl (by kernel_rfl) (Pur.bld (cs := [_]) pl25 zc25 rfl rfl ⟨rfl, rfl⟩) ?_
      refine RegD.fork2 (i := 4) (j := 6) (by kernel_rfl) ?_ ?_
      · refine RegOp.one (i := 4) rfl rfl rfl rfl (Does.call rfl (v10_ok 0 _)) ?_
        rintro v3_4 H3_4 ⟨⟨Ad, cd, rfl, hSd, hfd⟩, hE3_4⟩
        have z3_4 := hE3_4.lt
        replace hE := hE.ext hE3_4
        replace o1_1 := o1_1.ext hE3_4
        replace hSa := hSa.ext hE3_4
        replace hSb := hSb.ext hE3_4
        replace hSc := hSc.ext hE3_4
        replace o2_4 := o2_4.ext hE3_4
        replace o3_1 := o3_1.ext hE3_4
        have z_hSd := hSd.lt
        refine ⟨fun _ _ => (Bks.cons o1_1.blk Bks.nil), ?_⟩
        refine RegD.fork2 (i := 5) (j := 6) (by kernel_rfl) ?_ ?_
        · refine RegOp.one (i := 5) rfl rfl rfl rfl (Does.call rfl (fun10_ok (a := .bas false) (b := .var 0) (r := pureR) awOkB.1 awOkB.2.2.2 rfl (by decide) (by decide) (sl_own (L := [bNode false]) (wide9 (nine_lit rfl)) (by decide) o3_1 (by decide)) hSd)) ?_
          rintro v3_5 H3_5 ⟨⟨Ae, ce, rfl, hSe, hfe⟩, hE3_5⟩
          have z3_5 := hE3_5.lt
          replace hE := hE.ext hE3_5
          replace o1_1 := o1_1.ext hE3_5
          replace hSa := hSa.ext hE3_5
          replace hSb := hSb.ext hE3_5
          replace hSc := hSc.ext hE3_5
          replace o2_4 := o2_4.ext hE3_5
          replace o3_1 := o3_1.ext hE3_5
          replace hSd := hSd.ext hE3_5
          have z_hSe := hSe.lt
          refine ⟨fun h => (by cases h), ?_⟩
          refine RegD.one (i := 6) (by kernel_rfl) rfl rfl rfl rfl (Does.alloc zc25) ?_
          rintro _ H3_6 ⟨rfl, hn3_6⟩
          have z3_6 := hn3_6.size
          replace hE := hE.ext hn3_6.ext
          replace o1_1 := o1_1.ext hn3_6.ext
          replace hSa := hSa.ext hn3_6.ext
          replace hSb := hSb.ext hn3_6.ext
          replace hSc := hSc.ext hn3_6.ext
          replace o2_4 := o2_4.ext hn3_6.ext
          replace o3_1 := o3_1.ext hn3_6.ext
          replace hSd := hSd.ext hn3_6.ext
          replace hSe := hSe.ext hn3_6.ext
          have o3_6 := hn3_6.own
          refine ⟨fun _ _ => (Bks.cons o1_1.blk Bks.nil), ?_⟩
          refine RegD.one0 (i := 7) (by kernel_rfl) rfl rfl rfl (Does.stn ag25 rfl rfl (by first | rfl | exact ones_Is _) (by first | rfl | (simp [*]; done)) o3_6 (by first | decide | (simp; done) | (simp; omega) | omega)) ?_
          rintro _ H3_7 hu3_7
          have z3_7 := hu3_7.size
          replace hE := hE.upw hu3_7 (by omega)
          replace o1_1 := o1_1.upw hu3_7 (by omega)
          replace hSa := hSa.upw hu3_7 (by omega)
          replace hSb := hSb.upw hu3_7 (by omega)
          replace hSc := hSc.upw hu3_7 (by omega)
          replace o2_4 := o2_4.upw hu3_7 (by omega)
          replace o3_1 := o3_1.upw hu3_7 (by omega)
          replace hSd := hSd.upw hu3_7 (by omega)
          replace hSe := hSe.upw hu3_7 (by omega)
          replace o3_6 := hu3_7.own
          first | rw [over (by first | rfl | (simp; done))] at o3_6 | skip
          refine ⟨fun h => (by cases h), ?_⟩
          refine RegD.done (by kernel_rfl) ?_
          exact ⟨(_, Ae, ce), ⟨o3_6, hSe, o2_4, hSc, o1_1, hE⟩, ⟨rfl, rfl, rfl, trivial⟩⟩
        refine RegOp.one (i := 6) rfl rfl rfl rfl (Does.alloc zc25) ?_
        rintro _ H3_6 ⟨rfl, hn3_6⟩
        have z3_6 := hn3_6.size
        replace hE := hE.ext hn3_6.ext
        replace o1_1 := o1_1.ext hn3_6.ext
        replace hSa := hSa.ext hn3_6.ext
        replace hSb := hSb.ext hn3_6.ext
        replace hSc := hSc.ext hn3_6.ext
        replace o2_4 := o2_4.ext hn3_6.ext
        replace o3_1 := o3_1.ext hn3_6.ext
        replace hSd := hSd.ext hn3_6.ext
        have o3_6 := hn3_6.own
        refine ⟨fun _ _ => (Bks.cons o1_1.blk Bks.nil), ?_⟩
        refine RegD.one (i := 5) (by kernel_rfl) rfl rfl rfl rfl (Does.call rfl (fun10_ok (a := .bas false) (b := .var 0) (r := pureR) awOkB.1 awOkB.2.2.2 rfl (by decide) (by decide) (sl_own (L := [bNode false]) (wide9 (nine_lit rfl)) (by decide) o3_1 (by decide)) hSd)) ?_
        rintro v3_5 H3_5 ⟨⟨Ae, ce, rfl, hSe, hfe⟩, hE3_5⟩
        have z3_5 := hE3_5.lt
        replace hE := hE.ext hE3_5
        replace o1_1 := o1_1.ext hE3_5
        replace hSa := hSa.ext hE3_5
        replace hSb := hSb.ext hE3_5
        replace hSc := hSc.ext hE3_5
        replace o2_4 := o2_4.ext hE3_5
        replace o3_1 := o3_1.ext hE3_5
        replace hSd := hSd.ext hE3_5
        replace o3_6 := o3_6.ext hE3_5
        have z_hSe := hSe.lt
        refine ⟨fun h => (by cases h), ?_⟩
        refine RegD.one0 (i := 7) (by kernel_rfl) rfl rfl rfl (Does.stn ag25 rfl rfl (by first | rfl | exact ones_Is _) (by first | rfl | (simp [*]; done)) o3_6 (by first | decide | (simp; done) | (simp; omega) | omega)) ?_
        rintro _ H3_7 hu3_7
        have z3_7 := hu3_7.size
        replace hE := hE.upw hu3_7 (by omega)
        replace o1_1 := o1_1.upw hu3_7 (by omega)
        replace hSa := hSa.upw hu3_7 (by omega)
        replace hSb := hSb.upw hu3_7 (by omega)
        replace hSc := hSc.upw hu3_7 (by omega)
        replace o2_4 := o2_4.upw hu3_7 (by omega)
        replace o3_1 := o3_1.upw hu3_7 (by omega)
        replace hSd := hSd.upw hu3_7 (by omega)
        replace hSe := hSe.upw hu3_7 (by omega)
        replace o3_6 := hu3_7.own
        first | rw [over (by first | rfl | (simp; done))] at o3_6 | skip
        refine ⟨fun h => (by cases h), ?_⟩
        refine RegD.done (by kernel_rfl) ?_
        exact ⟨(_, Ae, ce), ⟨o3_6, hSe, o2_4, hSc, o1_1, hE⟩, ⟨rfl, rfl, rfl, trivial⟩⟩
      refine RegOp.one (i := 6) rfl rfl rfl rfl (Does.alloc zc25) ?_
      rintro _ H3_6 ⟨rfl, hn3_6⟩
      have z3_6 := hn3_6.size
      replace hE := hE.ext hn3_6.ext
      replace o1_1 := o1_1.ext hn3_6.ext
      replace hSa := hSa.ext hn3_6.ext
      replace hSb := hSb.ext hn3_6.ext
      replace hSc := hSc.ext hn3_6.ext
      replace o2_4 := o2_4.ext hn3_6.ext
      replace o3_1 := o3_1.ext hn3_6.ext
      have o3_6 := hn3_6.own
      refine ⟨fun _ _ => (Bks.cons o1_1.blk Bks.nil), ?_⟩
      refine RegD.one (i := 4) (by kernel_rfl) rfl rfl rfl rfl (Does.call rfl (v10_ok 0 _)) ?_
      rintro v3_4 H3_4 ⟨⟨Ad, cd, rfl, hSd, hfd⟩, hE3_4⟩
      have z3_4 := hE3_4.lt
      replace hE := hE.ext hE3_4
      replace o1_1 := o1_1.ext hE3_4
      replace hSa := hSa.ext hE3_4
      replace hSb := hSb.ext hE3_4
      replace hSc := hSc.ext hE3_4
      replace o2_4 := o2_4.ext hE3_4
      replace o3_1 := o3_1.ext hE3_4
      replace o3_6 := o3_6.ext hE3_4
      have z_hSd := hSd.lt
      refine ⟨fun _ _ => (Bks.cons o1_1.blk Bks.nil), ?_⟩
      refine RegD.one (i := 5) (by kernel_rfl) rfl rfl rfl rfl (Does.call rfl (fun10_ok (a := .bas false) (b := .var 0) (r := pureR) awOkB.1 awOkB.2.2.2 rfl (by decide) (by decide) (sl_own (L := [bNode false]) (wide9 (nine_lit rfl)) (by decide) o3_1 (by decide)) hSd)) ?_
      rintro v3_5 H3_5 ⟨⟨Ae, ce, rfl, hSe, hfe⟩, hE3_5⟩
      have z3_5 := hE3_5.lt
      replace hE := hE.ext hE3_5
      replace o1_1 := o1_1.ext hE3_5
      replace hSa := hSa.ext hE3_5
      replace hSb := hSb.ext hE3_5
      replace hSc := hSc.ext hE3_5
      replace o2_4 := o2_4.ext hE3_5
      replace o3_1 := o3_1.ext hE3_5
      replace o3_6 := o3_6.ext hE3_5
      replace hSd := hSd.ext hE3_5
      have z_hSe := hSe.lt
      refine ⟨fun h => (by cases h), ?_⟩
      refine RegD.one0 (i := 7) (by kernel_rfl) rfl rfl rfl (Does.stn ag25 rfl rfl (by first | rfl | exact ones_Is _) (by first | rfl | (simp [*]; done)) o3_6 (by first | decide | (simp; done) | (simp; omega) | omega)) ?_
      rintro _ H3_7 hu3_7
      have z3_7 := hu3_7.size
      replace hE := hE.upw hu3_7 (by omega)
      replace o1_1 := o1_1.upw hu3_7 (by omega)
      replace hSa := hSa.upw hu3_7 (by omega)
      replace hSb := hSb.upw hu3_7 (by omega)
      replace hSc := hSc.upw hu3_7 (by omega)
      replace o2_4 := o2_4.upw hu3_7 (by omega)
      replace o3_1 := o3_1.upw hu3_7 (by omega)
      replace hSd := hSd.upw hu3_7 (by omega)
      replace hSe := hSe.upw hu3_7 (by omega)
      replace o3_6 := hu3_7.own
      first | rw [over (by first | rfl | (simp; done))] at o3_6 | skip
      refine ⟨fun h => (by cases h), ?_⟩
      refine RegD.done (by kernel_rfl) ?_
      exact ⟨(_, Ae, ce), ⟨o3_6, hSe, o2_4, hSc, o1_1, hE⟩, ⟨rfl, rfl, rfl, trivial⟩⟩
    · refine RegOp.one (i := 4) rfl rfl rfl rfl (Does.call rfl (v10_ok 0 _)) ?_
      rintro v3_4 H3_4 ⟨⟨Ad, cd, rfl, hSd, hfd⟩, hE3_4⟩
      have z3_4 := hE3_4.lt
      replace hE := hE.ext hE3_4
      replace o1_1 := o1_1.ext hE3_4
      replace hSa := hSa.ext hE3_4
      replace hSb := hSb.ext hE3_4
      replace hSc := hSc.ext hE3_4
      replace o2_4 := o2_4.ext hE3_4
      have z_hSd := hSd.lt
      refine ⟨fun _ _ => (Bks.cons o1_1.blk Bks.nil), ?_⟩
      refine RegD.fork2 (i := 1) (j := 6) (by kernel_rfl) ?_ ?_
      · refine RegOp.one (i := 1) rfl rfl rfl rfl (Does.bslA ([Is (bNode false)]) slA23 rfl rfl rfl rfl rfl rfl) ?_
        rintro _ H3_1 ⟨rfl, hp3_1⟩
        have hn3_1 := New.of_eq hp3_1
        have z3_1 := hn3_1.size
        replace hE := hE.ext hn3_1.ext
        replace o1_1 := o1_1.ext hn3_1.ext
        replace hSa := hSa.ext hn3_1.ext
        replace hSb := hSb.ext hn3_1.ext
        replace hSc := hSc.ext hn3_1.ext
        replace o2_4 := o2_4.ext hn3_1.ext
        replace hSd := hSd.ext hn3_1.ext
        have o3_1 := hn3_1.own
        refine ⟨fun _ _ => (Bks.cons o1_1.blk Bks.nil), ?_⟩
        refine RegD.tpur (i := 2) rfl rfl rfl rfl (by kernel_rfl) (Pur.bld (cs := [_]) pl25 zc25 rfl rfl ⟨rfl, rfl⟩) ?_
        refine RegD.fork2 (i := 5) (j := 6) (by kernel_rfl) ?_ ?_
        · refine RegOp.one (i := 5) rfl rfl rfl rfl (Does.call rfl (fun10_ok (a := .bas false) (b := .var 0) (r := pureR) awOkB.1 awOkB.2.2.2 rfl (by decide) (by decide) (sl_own (L := [bNode false]) (wide9 (nine_lit rfl)) (by decide) o3_1 (by decide)) hSd)) ?_
          rintro v3_5 H3_5 ⟨⟨Ae, ce, rfl, hSe, hfe⟩, hE3_5⟩
          have z3_5 := hE3_5.lt
          replace hE := hE.ext hE3_5
          replace o1_1 := o1_1.ext hE3_5
          replace hSa := hSa.ext hE3_5
          replace hSb := hSb.ext hE3_5
          replace hSc := hSc.ext hE3_5
          replace o2_4 := o2_4.ext hE3_5
          replace hSd := hSd.ext hE3_5
          replace o3_1 := o3_1.ext hE3_5
          have z_hSe := hSe.lt
          refine ⟨fun h => (by cases h), ?_⟩
          refine RegD.one (i := 6) (by kernel_rfl) rfl rfl rfl rfl (Does.alloc zc25) ?_
          rintro _ H3_6 ⟨rfl, hn3_6⟩
          have z3_6 := hn3_6.size
          replace hE := hE.ext hn3_6.ext
          replace o1_1 := o1_1.ext hn3_6.ext
          replace hSa := hSa.ext hn3_6.ext
          replace hSb := hSb.ext hn3_6.ext
          replace hSc := hSc.ext hn3_6.ext
          replace o2_4 := o2_4.ext hn3_6.ext
          replace hSd := hSd.ext hn3_6.ext
          replace o3_1 := o3_1.ext hn3_6.ext
          replace hSe := hSe.ext hn3_6.ext
          have o3_6 := hn3_6.own
          refine ⟨fun _ _ => (Bks.cons o1_1.blk Bks.nil), ?_⟩
          refine RegD.one0 (i := 7) (by kernel_rfl) rfl rfl rfl (Does.stn ag25 rfl rfl (by first | rfl | exact ones_Is _) (by first | rfl | (simp [*]; done)) o3_6 (by first | decide | (simp; done) | (simp; omega) | omega)) ?_
          rintro _ H3_7 hu3_7
          have z3_7 := hu3_7.size
          replace hE := hE.upw hu3_7 (by omega)
          replace o1_1 := o1_1.upw hu3_7 (by omega)
          replace hSa := hSa.upw hu3_7 (by omega)
          replace hSb := hSb.upw hu3_7 (by omega)
          replace hSc := hSc.upw hu3_7 (by omega)
          replace o2_4 := o2_4.upw hu3_7 (by omega)
          replace hSd := hSd.upw hu3_7 (by omega)
          replace o3_1 := o3_1.upw hu3_7 (by omega)
          replace hSe := hSe.upw hu3_7 (by omega)
          replace o3_6 := hu3_7.own
          first | rw [over (by first | rfl | (simp; done))] at o3_6 | skip
          refine ⟨fun h => (by cases h), ?_⟩
          refine RegD.done (by kernel_rfl) ?_
          exact ⟨(_, Ae, ce), ⟨o3_6, hSe, o2_4, hSc, o1_1, hE⟩, ⟨rfl, rfl, rfl, trivial⟩⟩
        refine RegOp.one (i := 6) rfl rfl rfl rfl (Does.alloc zc25) ?_
        rintro _ H3_6 ⟨rfl, hn3_6⟩
        have z3_6 := hn3_6.size
        replace hE := hE.ext hn3_6.ext
        replace o1_1 := o1_1.ext hn3_6.ext
        replace hSa := hSa.ext hn3_6.ext
        replace hSb := hSb.ext hn3_6.ext
        replace hSc := hSc.ext hn3_6.ext
        replace o2_4 := o2_4.ext hn3_6.ext
        replace hSd := hSd.ext hn3_6.ext
        replace o3_1 := o3_1.ext hn3_6.ext
        have o3_6 := hn3_6.own
        refine ⟨fun _ _ => (Bks.cons o1_1.blk Bks.nil), ?_⟩
        refine RegD.one (i := 5) (by kernel_rfl) rfl rfl rfl rfl (Does.call rfl (fun10_ok (a := .bas false) (b := .var 0) (r := pureR) awOkB.1 awOkB.2.2.2 rfl (by decide) (by decide) (sl_own (L := [bNode false]) (wide9 (nine_lit rfl)) (by decide) o3_1 (by decide)) hSd)) ?_
        rintro v3_5 H3_5 ⟨⟨Ae, ce, rfl, hSe, hfe⟩, hE3_5⟩
        have z3_5 := hE3_5.lt
        replace hE := hE.ext hE3_5
        replace o1_1 := o1_1.ext hE3_5
        replace hSa := hSa.ext hE3_5
        replace hSb := hSb.ext hE3_5
        replace hSc := hSc.ext hE3_5
        replace o2_4 := o2_4.ext hE3_5
        replace hSd := hSd.ext hE3_5
        replace o3_1 := o3_1.ext hE3_5
        replace o3_6 := o3_6.ext hE3_5
        have z_hSe := hSe.lt
        refine ⟨fun h => (by cases h), ?_⟩
        refine RegD.one0 (i := 7) (by kernel_rfl) rfl rfl rfl (Does.stn ag25 rfl rfl (by first | rfl | exact ones_Is _) (by first | rfl | (simp [*]; done)) o3_6 (by first | decide | (simp; done) | (simp; omega) | omega)) ?_
        rintro _ H3_7 hu3_7
        have z3_7 := hu3_7.size
        replace hE := hE.upw hu3_7 (by omega)
        replace o1_1 := o1_1.upw hu3_7 (by omega)
        replace hSa := hSa.upw hu3_7 (by omega)
        replace hSb := hSb.upw hu3_7 (by omega)
        replace hSc := hSc.upw hu3_7 (by omega)
        replace o2_4 := o2_4.upw hu3_7 (by omega)
        replace hSd := hSd.upw hu3_7 (by omega)
        replace o3_1 := o3_1.upw hu3_7 (by omega)
        replace hSe := hSe.upw hu3_7 (by omega)
        replace o3_6 := hu3_7.own
        first | rw [over (by first | rfl | (simp; done))] at o3_6 | skip
        refine ⟨fun h => (by cases h), ?_⟩
        refine RegD.done (by kernel_rfl) ?_
        exact ⟨(_, Ae, ce), ⟨o3_6, hSe, o2_4, hSc, o1_1, hE⟩, ⟨rfl, rfl, rfl, trivial⟩⟩
      refine RegOp.one (i := 6) rfl rfl rfl rfl (Does.alloc zc25) ?_
      rintro _ H3_6 ⟨rfl, hn3_6⟩
      have z3_6 := hn3_6.size
      replace hE := hE.ext hn3_6.ext
      replace o1_1 := o1_1.ext hn3_6.ext
      replace hSa := hSa.ext hn3_6.ext
      replace hSb := hSb.ext hn3_6.ext
      replace hSc := hSc.ext hn3_6.ext
      replace o2_4 := o2_4.ext hn3_6.ext
      replace hSd := hSd.ext hn3_6.ext
      have o3_6 := hn3_6.own
      refine ⟨fun _ _ => (Bks.cons o1_1.blk Bks.nil), ?_⟩
      refine RegD.one (i := 1) (by kernel_rfl) rfl rfl rfl rfl (Does.bslA ([Is (bNode false)]) slA23 rfl rfl rfl rfl rfl rfl) ?_
      rintro _ H3_1 ⟨rfl, hp3_1⟩
      have hn3_1 := New.of_eq hp3_1
      have z3_1 := hn3_1.size
      replace hE := hE.ext hn3_1.ext
      replace o1_1 := o1_1.ext hn3_1.ext
      replace hSa := hSa.ext hn3_1.ext
      replace hSb := hSb.ext hn3_1.ext
      replace hSc := hSc.ext hn3_1.ext
      replace o2_4 := o2_4.ext hn3_1.ext
      replace hSd := hSd.ext hn3_1.ext
      replace o3_6 := o3_6.ext hn3_1.ext
      have o3_1 := hn3_1.own
      refine ⟨fun _ _ => (Bks.cons o1_1.blk Bks.nil), ?_⟩
      refine RegD.tpur (i := 2) rfl rfl rfl rfl (by kernel_rfl) (Pur.bld (cs := [_]) pl25 zc25 rfl rfl ⟨rfl, rfl⟩) ?_
      refine RegD.one (i := 5) (by kernel_rfl) rfl rfl rfl rfl (Does.call rfl (fun10_ok (a := .bas false) (b := .var 0) (r := pureR) awOkB.1 awOkB.2.2.2 rfl (by decide) (by decide) (sl_own (L := [bNode false]) (wide9 (nine_lit rfl)) (by decide) o3_1 (by decide)) hSd)) ?_
      rintro v3_5 H3_5 ⟨⟨Ae, ce, rfl, hSe, hfe⟩, hE3_5⟩
      have z3_5 := hE3_5.lt
      replace hE := hE.ext hE3_5
      replace o1_1 := o1_1.ext hE3_5
      replace hSa := hSa.ext hE3_5
      replace hSb := hSb.ext hE3_5
      replace hSc := hSc.ext hE3_5
      replace o2_4 := o2_4.ext hE3_5
      replace hSd := hSd.ext hE3_5
      replace o3_6 := o3_6.ext hE3_5
      replace o3_1 := o3_1.ext hE3_5
      have z_hSe := hSe.lt
      refine ⟨fun h => (by cases h), ?_⟩
      refine RegD.one0 (i := 7) (by kernel_rfl) rfl rfl rfl (Does.stn ag25 rfl rfl (by first | rfl | exact ones_Is _) (by first | rfl | (simp [*]; done)) o3_6 (by first | decide | (simp; done) | (simp; omega) | omega)) ?_
      rintro _ H3_7 hu3_7
      have z3_7 := hu3_7.size
      replace hE := hE.upw hu3_7 (by omega)
      replace o1_1 := o1_1.upw hu3_7 (by omega)
      replace hSa := hSa.upw hu3_7 (by omega)
      replace hSb := hSb.upw hu3_7 (by omega)
      replace hSc := hSc.upw hu3_7 (by omega)
      replace o2_4 := o2_4.upw hu3_7 (by omega)
      replace hSd := hSd.upw hu3_7 (by omega)
      replace o3_1 := o3_1.upw hu3_7 (by omega)
      replace hSe := hSe.upw hu3_7 (by omega)
      replace o3_6 := hu3_7.own
      first | rw [over (by first | rfl | (simp; done))] at o3_6 | skip
      refine ⟨fun h => (by cases h), ?_⟩
      refine RegD.done (by kernel_rfl) ?_
      exact ⟨(_, Ae, ce), ⟨o3_6, hSe, o2_4, hSc, o1_1, hE⟩, ⟨rfl, rfl, rfl, trivial⟩⟩
    refine RegOp.one (i := 6) rfl rfl rfl rfl (Does.alloc zc25) ?_
    rintro _ H3_6 ⟨rfl, hn3_6⟩
    have z3_6 := hn3_6.size
    replace hE := hE.ext hn3_6.ext
    replace o1_1 := o1_1.ext hn3_6.ext
    replace hSa := hSa.ext hn3_6.ext
    replace hSb := hSb.ext hn3_6.ext
    replace hSc := hSc.ext hn3_6.ext
    replace o2_4 := o2_4.ext hn3_6.ext
    have o3_6 := hn3_6.own
    refine ⟨fun _ _ => (Bks.cons o1_1.blk Bks.nil), ?_⟩
    refine RegD.fork2 (i := 1) (j := 4) (by kernel_rfl) ?_ ?_
    · refine RegOp.one (i := 1) rfl rfl rfl rfl (Does.bslA ([Is (bNode false)]) slA23 rfl rfl rfl rfl rfl rfl) ?_
      rintro _ H3_1 ⟨rfl, hp3_1⟩
      have hn3_1 := New.of_eq hp3_1
      have z3_1 := hn3_1.size
      replace hE := hE.ext hn3_1.ext
      replace o1_1 := o1_1.ext hn3_1.ext
      replace hSa := hSa.ext hn3_1.ext
      replace hSb := hSb.ext hn3_1.ext
      replace hSc := hSc.ext hn3_1.ext
      replace o2_4 := o2_4.ext hn3_1.ext
      replace o3_6 := o3_6.ext hn3_1.ext
      have o3_1 := hn3_1.own
      refine ⟨fun _ _ => (Bks.cons o1_1.blk Bks.nil), ?_⟩
      refine RegD.tpur (i := 2) rfl rfl rfl rfl (by kernel_rfl) (Pur.bld (cs := [_]) pl25 zc25 rfl rfl ⟨rfl, rfl⟩) ?_
      refine RegD.one (i := 4) (by kernel_rfl) rfl rfl rfl rfl (Does.call rfl (v10_ok 0 _)) ?_
      rintro v3_4 H3_4 ⟨⟨Ad, cd, rfl, hSd, hfd⟩, hE3_4⟩
      have z3_4 := hE3_4.lt
      replace hE := hE.ext hE3_4
      replace o1_1 := o1_1.ext hE3_4
      replace hSa := hSa.ext hE3_4
      replace hSb := hSb.ext hE3_4
      replace hSc := hSc.ext hE3_4
      replace o2_4 := o2_4.ext hE3_4
      replace o3_6 := o3_6.ext hE3_4
      replace o3_1 := o3_1.ext hE3_4
      have z_hSd := hSd.lt
      refine ⟨fun _ _ => (Bks.cons o1_1.blk Bks.nil), ?_⟩
      refine RegD.one (i := 5) (by kernel_rfl) rfl rfl rfl rfl (Does.call rfl (fun10_ok (a := .bas false) (b := .var 0) (r := pureR) awOkB.1 awOkB.2.2.2 rfl (by decide) (by decide) (sl_own (L := [bNode false]) (wide9 (nine_lit rfl)) (by decide) o3_1 (by decide)) hSd)) ?_
      rintro v3_5 H3_5 ⟨⟨Ae, ce, rfl, hSe, hfe⟩, hE3_5⟩
      have z3_5 := hE3_5.lt
      replace hE := hE.ext hE3_5
      replace o1_1 := o1_1.ext hE3_5
      replace hSa := hSa.ext hE3_5
      replace hSb := hSb.ext hE3_5
      replace hSc := hSc.ext hE3_5
      replace o2_4 := o2_4.ext hE3_5
      replace o3_6 := o3_6.ext hE3_5
      replace o3_1 := o3_1.ext hE3_5
      replace hSd := hSd.ext hE3_5
      have z_hSe := hSe.lt
      refine ⟨fun h => (by cases h), ?_⟩
      refine RegD.one0 (i := 7) (by kernel_rfl) rfl rfl rfl (Does.stn ag25 rfl rfl (by first | rfl | exact ones_Is _) (by first | rfl | (simp [*]; done)) o3_6 (by first | decide | (simp; done) | (simp; omega) | omega)) ?_
      rintro _ H3_7 hu3_7
      have z3_7 := hu3_7.size
      replace hE := hE.upw hu3_7 (by omega)
      replace o1_1 := o1_1.upw hu3_7 (by omega)
      replace hSa := hSa.upw hu3_7 (by omega)
      replace hSb := hSb.upw hu3_7 (by omega)
      replace hSc := hSc.upw hu3_7 (by omega)
      replace o2_4 := o2_4.upw hu3_7 (by omega)
      replace o3_1 := o3_1.upw hu3_7 (by omega)
      replace hSd := hSd.upw hu3_7 (by omega)
      replace hSe := hSe.upw hu3_7 (by omega)
      replace o3_6 := hu3_7.own
      first | rw [over (by first | rfl | (simp; done))] at o3_6 | skip
      refine ⟨fun h => (by cases h), ?_⟩
      refine RegD.done (by kernel_rfl) ?_
      exact ⟨(_, Ae, ce), ⟨o3_6, hSe, o2_4, hSc, o1_1, hE⟩, ⟨rfl, rfl, rfl, trivial⟩⟩
    refine RegOp.one (i := 4) rfl rfl rfl rfl (Does.call rfl (v10_ok 0 _)) ?_
    rintro v3_4 H3_4 ⟨⟨Ad, cd, rfl, hSd, hfd⟩, hE3_4⟩
    have z3_4 := hE3_4.lt
    replace hE := hE.ext hE3_4
    replace o1_1 := o1_1.ext hE3_4
    replace hSa := hSa.ext hE3_4
    replace hSb := hSb.ext hE3_4
    replace hSc := hSc.ext hE3_4
    replace o2_4 := o2_4.ext hE3_4
    replace o3_6 := o3_6.ext hE3_4
    have z_hSd := hSd.lt
    refine ⟨fun _ _ => (Bks.cons o1_1.blk Bks.nil), ?_⟩
    refine RegD.one (i := 1) (by kernel_rfl) rfl rfl rfl rfl (Does.bslA ([Is (bNode false)]) slA23 rfl rfl rfl rfl rfl rfl) ?_
    rintro _ H3_1 ⟨rfl, hp3_1⟩
    have hn3_1 := New.of_eq hp3_1
    have z3_1 := hn3_1.size
    replace hE := hE.ext hn3_1.ext
    replace o1_1 := o1_1.ext hn3_1.ext
    replace hSa := hSa.ext hn3_1.ext
    replace hSb := hSb.ext hn3_1.ext
    replace hSc := hSc.ext hn3_1.ext
    replace o2_4 := o2_4.ext hn3_1.ext
    replace o3_6 := o3_6.ext hn3_1.ext
    replace hSd := hSd.ext hn3_1.ext
    have o3_1 := hn3_1.own
    refine ⟨fun _ _ => (Bks.cons o1_1.blk Bks.nil), ?_⟩
    refine RegD.tpur (i := 2) rfl rfl rfl rfl (by kernel_rfl) (Pur.bld (cs := [_]) pl25 zc25 rfl rfl ⟨rfl, rfl⟩) ?_
    refine RegD.one (i := 5) (by kernel_rfl) rfl rfl rfl rfl (Does.call rfl (fun10_ok (a := .bas false) (b := .var 0) (r := pureR) awOkB.1 awOkB.2.2.2 rfl (by decide) (by decide) (sl_own (L := [bNode false]) (wide9 (nine_lit rfl)) (by decide) o3_1 (by decide)) hSd)) ?_
    rintro v3_5 H3_5 ⟨⟨Ae, ce, rfl, hSe, hfe⟩, hE3_5⟩
    have z3_5 := hE3_5.lt
    replace hE := hE.ext hE3_5
    replace o1_1 := o1_1.ext hE3_5
    replace hSa := hSa.ext hE3_5
    replace hSb := hSb.ext hE3_5
    replace hSc := hSc.ext hE3_5
    replace o2_4 := o2_4.ext hE3_5
    replace o3_6 := o3_6.ext hE3_5
    replace hSd := hSd.ext hE3_5
    replace o3_1 := o3_1.ext hE3_5
    have z_hSe := hSe.lt
    refine ⟨fun h => (by cases h), ?_⟩
    refine RegD.one0 (i := 7) (by kernel_rfl) rfl rfl rfl (Does.stn ag25 rfl rfl (by first | rfl | exact ones_Is _) (by first | rfl | (simp [*]; done)) o3_6 (by first | decide | (simp; done) | (simp; omega) | omega)) ?_
    rintro _ H3_7 hu3_7
    have z3_7 := hu3_7.size
    replace hE := hE.upw hu3_7 (by omega)
    replace o1_1 := o1_1.upw hu3_7 (by omega)
    replace hSa := hSa.upw hu3_7 (by omega)
    replace hSb := hSb.upw hu3_7 (by omega)
    replace hSc := hSc.upw hu3_7 (by omega)
    replace o2_4 := o2_4.upw hu3_7 (by omega)
    replace hSd := hSd.upw hu3_7 (by omega)
    replace o3_1 := o3_1.upw hu3_7 (by omega)
    replace hSe := hSe.upw hu3_7 (by omega)
    replace o3_6 := hu3_7.own
    first | rw [over (by first | rfl | (simp; done))] at o3_6 | skip
    refine ⟨fun h => (by cases h), ?_⟩
    refine RegD.done (by kernel_rfl) ?_
    exact ⟨(_, Ae, ce), ⟨o3_6, hSe, o2_4, hSc, o1_1, hE⟩, ⟨rfl, rfl, rfl, trivial⟩⟩
  clear hSa hSb hSc o2_4 o1_1 hE
  obtain ⟨b3, Ae, ce⟩ := s
  obtain ⟨o3, hSe, o2, hSc, o1, hE⟩ := hs
  have z_hE := hE.lt
  have z_hSe := hSe.lt
  have z_hSc := hSc.lt
  have z_o1 := o1.lt
  have z_o2 := o2.lt
  have z_o3 := o3.lt
  refine At.region rfl rfl ?_
  refine Reg.lod rfl rfl rfl rfl (Lod.ldn ag25 rfl o2.blk (whole rfl) rfl) ?_
  refine Reg.lod rfl rfl rfl rfl (Lod.ldn ag25 rfl o3.blk (whole rfl) rfl) ?_
  refine Reg.op rfl rfl rfl rfl (Does.call rfl (unify_ok (L := awA.enc 0) (M := awB2.enc 0) (awA.enc_nine 0 awOkA) (awB2.enc_nine 0 awOkB) hSc hSe (by decide) (by decide) awUnf1)) ?_
  rintro v4_2 H4_2 ⟨⟨A4, cap4, Bs4, sb4, rfl, hSl⟩, hE4_2⟩
  have z4_2 := hE4_2.lt
  replace hE := hE.ext hE4_2
  replace hSe := hSe.ext hE4_2
  replace hSc := hSc.ext hE4_2
  replace o1 := o1.ext hE4_2
  replace o2 := o2.ext hE4_2
  replace o3 := o3.ext hE4_2
  have z_hSl := hSl.lt
  refine Reg.pur rfl rfl rfl rfl (Pur.mv rfl) ?_
  refine Reg.pur rfl rfl rfl rfl (Pur.ext rfl rfl) ?_
  refine Reg.pur rfl rfl rfl rfl (Pur.ext rfl rfl) ?_
  refine Reg.pur rfl rfl rfl rfl (Pur.asg rfl) ?_
  refine Reg.pur rfl rfl rfl rfl (Pur.asg rfl) ?_
  refine Reg.nil ?_
  refine At.drawE ((Bks.cons o2.blk Bks.nil)) [2] mixed rfl rfl ?_
  refine RegD.take (i := 1) rfl rfl rfl rfl (by kernel_rfl) (Bks.cons o2.blk Bks.nil) (fun H hS => Lod.ldn ag25 rfl hS.hd (whole rfl) rfl) ?_
  refine RegD.one (i := 0) (by kernel_rfl) rfl rfl rfl rfl (Does.call rfl (v10_ok 0 _)) ?_
  rintro v5_0 H5_0 ⟨⟨Af, cf, rfl, hSf, hff⟩, hE5_0⟩
  have z5_0 := hE5_0.lt
  replace hE := hE.ext hE5_0
  replace hSe := hSe.ext hE5_0
  replace hSc := hSc.ext hE5_0
  replace o1 := o1.ext hE5_0
  replace o2 := o2.ext hE5_0
  replace o3 := o3.ext hE5_0
  replace hSl := hSl.ext hE5_0
  have z_hSf := hSf.lt
  refine ⟨fun _ _ => (Bks.cons o2.blk Bks.nil), ?_⟩
  refine RegD.one (i := 2) (by kernel_rfl) rfl rfl rfl rfl (Does.call rfl (unify_ok (L := (Tm.var 0).enc 0) (M := awA.enc 0) (nine_lit rfl) (awA.enc_nine 0 awOkA) hSf hSc (by decide) (by decide) awUnf2)) ?_
  rintro v5_2 H5_2 ⟨rfl, hE5_2⟩
  have z5_2 := hE5_2.lt
  replace hE := hE.ext hE5_2
  replace hSe := hSe.ext hE5_2
  replace hSc := hSc.ext hE5_2
  replace o1 := o1.ext hE5_2
  replace o2 := o2.ext hE5_2
  replace o3 := o3.ext hE5_2
  replace hSl := hSl.ext hE5_2
  replace hSf := hSf.ext hE5_2
  refine ⟨fun h => (by cases h), ?_⟩
  refine RegD.tpur (i := 3) rfl rfl rfl rfl (by kernel_rfl) (Pur.mv rfl) ?_
  refine RegD.tpur (i := 4) rfl rfl rfl rfl (by kernel_rfl) (Pur.ext rfl rfl) ?_
  refine RegD.tpur (i := 5) rfl rfl rfl rfl (by kernel_rfl) (Pur.ext rfl rfl) ?_
  refine RegD.tpur (i := 6) rfl rfl rfl rfl (by kernel_rfl) (Pur.asg rfl) ?_
  refine RegD.tpur (i := 7) rfl rfl rfl rfl (by kernel_rfl) (Pur.asg rfl) ?_
  refine RegD.done (by kernel_rfl) ?_
  refine At.region rfl rfl ?_
  refine Reg.pur rfl rfl rfl rfl (Pur.bld (cs := [_, _, _, _, _, _, _, _, _]) pl47 zc47 rfl rfl ⟨rfl, rfl, rfl, rfl, rfl, rfl, rfl, rfl, rfl, rfl⟩) ?_
  refine Reg.op rfl rfl rfl rfl (Does.bslA ([Is (bNode false)]) slA23 rfl rfl rfl rfl rfl rfl) ?_
  rintro _ H6_1 ⟨rfl, hp6_1⟩
  have hn6_1 := New.of_eq hp6_1
  have z6_1 := hn6_1.size
  replace hE := hE.ext hn6_1.ext
  replace hSe := hSe.ext hn6_1.ext
  replace hSc := hSc.ext hn6_1.ext
  replace o1 := o1.ext hn6_1.ext
  replace o2 := o2.ext hn6_1.ext
  replace o3 := o3.ext hn6_1.ext
  replace hSl := hSl.ext hn6_1.ext
  replace hSf := hSf.ext hn6_1.ext
  have o6_1 := hn6_1.own
  refine Reg.pur rfl rfl rfl rfl (Pur.bld (cs := [_]) pl25 zc25 rfl rfl ⟨rfl, rfl⟩) ?_
  refine Reg.lod rfl rfl rfl rfl (Lod.ldn ag25 rfl o2.blk (whole rfl) rfl) ?_
  refine Reg.op rfl rfl rfl rfl (Does.call rfl (unify_ok (L := (Tm.bas false).enc 0) (M := awA.enc 0) (nine_lit rfl) (awA.enc_nine 0 awOkA) (sl_own (L := [bNode false]) (wide9 (nine_lit rfl)) (by decide) o6_1 (by decide)) hSc (by decide) (by decide) awUnf3)) ?_
  rintro v6_4 H6_4 ⟨rfl, hE6_4⟩
  have z6_4 := hE6_4.lt
  replace hE := hE.ext hE6_4
  replace hSe := hSe.ext hE6_4
  replace hSc := hSc.ext hE6_4
  replace o1 := o1.ext hE6_4
  replace o2 := o2.ext hE6_4
  replace o3 := o3.ext hE6_4
  replace hSl := hSl.ext hE6_4
  replace hSf := hSf.ext hE6_4
  replace o6_1 := o6_1.ext hE6_4
  refine Reg.pur rfl rfl rfl rfl (Pur.mv rfl) ?_
  refine Reg.pur rfl rfl rfl rfl (Pur.ext rfl rfl) ?_
  refine Reg.pur rfl rfl rfl rfl (Pur.ext rfl rfl) ?_
  refine Reg.pur rfl rfl rfl rfl (Pur.asg rfl) ?_
  refine Reg.pur rfl rfl rfl rfl (Pur.asg rfl) ?_
  refine Reg.nil ?_
  refine At.region rfl rfl ?_
  refine Reg.lod rfl rfl rfl rfl (Lod.ldn ag25 rfl o2.blk (whole rfl) rfl) ?_
  refine Reg.lod rfl rfl rfl rfl (Lod.ldn ag25 rfl o3.blk (whole rfl) rfl) ?_
  refine Reg.op rfl rfl rfl rfl (Does.call rfl (unify_ok (L := awA.enc 0) (M := awB2.enc 0) (awA.enc_nine 0 awOkA) (awB2.enc_nine 0 awOkB) hSc hSe (by decide) (by decide) awUnf4)) ?_
  rintro v7_2 H7_2 ⟨rfl, hE7_2⟩
  have z7_2 := hE7_2.lt
  replace hE := hE.ext hE7_2
  replace hSe := hSe.ext hE7_2
  replace hSc := hSc.ext hE7_2
  replace o1 := o1.ext hE7_2
  replace o2 := o2.ext hE7_2
  replace o3 := o3.ext hE7_2
  replace hSl := hSl.ext hE7_2
  replace hSf := hSf.ext hE7_2
  replace o6_1 := o6_1.ext hE7_2
  refine Reg.pur rfl rfl rfl rfl (Pur.mv rfl) ?_
  refine Reg.pur rfl rfl rfl rfl (Pur.ext rfl rfl) ?_
  refine Reg.pur rfl rfl rfl rfl (Pur.ext rfl rfl) ?_
  refine Reg.pur rfl rfl rfl rfl (Pur.asg rfl) ?_
  refine Reg.pur rfl rfl rfl rfl (Pur.asg rfl) ?_
  refine Reg.nil ?_
  obtain ⟨b0, b1, b2, rfl, p0, p1, p2⟩ := three_pl hSl.pl
  obtain ⟨A0, c0, rfl⟩ := bd_of (v := 0) (r := false) (L := [bNode false]) (row := noRow) p0
  obtain ⟨A1, c1, rfl⟩ := bd_of (v := 0) (r := true) (L := []) (row := pureR) p1
  obtain ⟨A2, c2, rfl⟩ := bd_of (v := 1) (r := false) (L := [bNode false]) (row := noRow) p2
  obtain ⟨g8, c8, rfl, hT8, hc8, _⟩ := hSl.blk (by simp)
  have hsl2 : SlT H7_2 Is 9 (.slice A2 [bNode false].length c2) [bNode false] := (hSl.ok ⟨1, false, A2, c2, [bNode false], noRow⟩ (by simp)).sl
  have hg8 := hT8.blk
  have z_hg8 := hg8.lt
  have z_hsl2 := hsl2.lt
  refine At.drawE ((Bks.cons hg8.blk (Bks.cons o1.blk Bks.nil))) [] mixed rfl rfl ?_
  refine RegD.tpur (i := 0) rfl rfl rfl rfl (by kernel_rfl) (Pur.mv rfl) ?_
  refine RegD.tpur (i := 1) rfl rfl rfl rfl (by kernel_rfl) (Pur.lenS isl22 rfl) ?_
  refine RegD.tpur (i := 2) rfl rfl rfl rfl (by kernel_rfl) (Pur.eql rfl rfl) ?_
  refine RegD.tpur (i := 3) rfl rfl rfl rfl (by kernel_rfl) (Pur.mv rfl) ?_
  refine RegD.known (b' := true) 52 rfl (by rfl) ?_
  refine RegD.gtpur (i := 4) rfl rfl rfl rfl rfl rfl (by kernel_rfl) (Pur.mv rfl) ?_
  refine RegD.gtpur (i := 5) rfl rfl rfl rfl rfl rfl (by kernel_rfl) (Pur.idx _ es22 rfl rfl (by decide) (by simp)) ?_
  refine RegD.gtpur (i := 6) rfl rfl rfl rfl rfl rfl (by kernel_rfl) (Pur.fld _ fo49_0 rfl) ?_
  refine RegD.gtake (i := 7) rfl rfl rfl rfl rfl rfl (by kernel_rfl) (Bks.cons hg8.blk (Bks.cons o1.blk Bks.nil)) (fun H hS => Lod.ld sc3 rfl hS.hd (tk_at hc8 rfl)) ?_
  refine RegD.gtpur (i := 8) rfl rfl rfl rfl rfl rfl (by kernel_rfl) (Pur.eql rfl rfl) ?_
  refine RegD.tpur (i := 9) rfl rfl rfl rfl (by kernel_rfl) (Pur.pickT rfl rfl) ?_
  refine RegD.tpur (i := 10) rfl rfl rfl rfl (by kernel_rfl) (Pur.mv rfl) ?_
  refine RegD.known (b' := true) 59 rfl (by rfl) ?_
  refine RegD.gtpur (i := 11) rfl rfl rfl rfl rfl rfl (by kernel_rfl) (Pur.mv rfl) ?_
  refine RegD.gtpur (i := 12) rfl rfl rfl rfl rfl rfl (by kernel_rfl) (Pur.idx _ es22 rfl rfl (by decide) (by simp)) ?_
  refine RegD.gtpur (i := 13) rfl rfl rfl rfl rfl rfl (by kernel_rfl) (Pur.fld _ fo49_1 rfl) ?_
  refine RegD.gtake (i := 14) rfl rfl rfl rfl rfl rfl (by kernel_rfl) (Bks.cons hg8.blk (Bks.cons o1.blk Bks.nil)) (fun H hS => Lod.ld sc4 rfl hS.hd (tk_at hc8 rfl)) ?_
  refine RegD.gtpur (i := 15) rfl rfl rfl rfl rfl rfl (by kernel_rfl) (Pur.not rfl) ?_
  refine RegD.tpur (i := 16) rfl rfl rfl rfl (by kernel_rfl) (Pur.pickT rfl rfl) ?_
  refine RegD.tpur (i := 17) rfl rfl rfl rfl (by kernel_rfl) (Pur.mv rfl) ?_
  refine RegD.known (b' := true) 66 rfl (by rfl) ?_
  refine RegD.gtpur (i := 18) rfl rfl rfl rfl rfl rfl (by kernel_rfl) (Pur.mv rfl) ?_
  refine RegD.gtpur (i := 19) rfl rfl rfl rfl rfl rfl (by kernel_rfl) (Pur.idx _ es22 rfl rfl (by decide) (by simp)) ?_
  refine RegD.gtpur (i := 20) rfl rfl rfl rfl rfl rfl (by kernel_rfl) (Pur.fld _ fo49_0 rfl) ?_
  refine RegD.gtake (i := 21) rfl rfl rfl rfl rfl rfl (by kernel_rfl) (Bks.cons hg8.blk (Bks.cons o1.blk Bks.nil)) (fun H hS => Lod.ld sc3 rfl hS.hd (tk_at hc8 rfl)) ?_
  refine RegD.gtpur (i := 22) rfl rfl rfl rfl rfl rfl (by kernel_rfl) (Pur.eql rfl rfl) ?_
  refine RegD.tpur (i := 23) rfl rfl rfl rfl (by kernel_rfl) (Pur.pickT rfl rfl) ?_
  refine RegD.tpur (i := 24) rfl rfl rfl rfl (by kernel_rfl) (Pur.mv rfl) ?_
  refine RegD.known (b' := true) 73 rfl (by rfl) ?_
  refine RegD.gtpur (i := 25) rfl rfl rfl rfl rfl rfl (by kernel_rfl) (Pur.mv rfl) ?_
  refine RegD.gtpur (i := 26) rfl rfl rfl rfl rfl rfl (by kernel_rfl) (Pur.idx _ es22 rfl rfl (by decide) (by simp)) ?_
  refine RegD.gtpur (i := 27) rfl rfl rfl rfl rfl rfl (by kernel_rfl) (Pur.fld _ fo49_1 rfl) ?_
  refine RegD.gtake (i := 28) rfl rfl rfl rfl rfl rfl (by kernel_rfl) (Bks.cons hg8.blk (Bks.cons o1.blk Bks.nil)) (fun H hS => Lod.ld sc4 rfl hS.hd (tk_at hc8 rfl)) ?_
  refine RegD.tpur (i := 29) rfl rfl rfl rfl (by kernel_rfl) (Pur.pickT rfl rfl) ?_
  refine RegD.tpur (i := 30) rfl rfl rfl rfl (by kernel_rfl) (Pur.mv rfl) ?_
  refine RegD.known (b' := true) 79 rfl (by rfl) ?_
  refine RegD.gtpur (i := 31) rfl rfl rfl rfl rfl rfl (by kernel_rfl) (Pur.mv rfl) ?_
  refine RegD.gtpur (i := 32) rfl rfl rfl rfl rfl rfl (by kernel_rfl) (Pur.idx _ es22 rfl rfl (by decide) (by simp)) ?_
  refine RegD.gtpur (i := 33) rfl rfl rfl rfl rfl rfl (by kernel_rfl) (Pur.fld _ fo49_3 rfl) ?_
  refine RegD.gtake (i := 34) rfl rfl rfl rfl rfl rfl (by kernel_rfl) (Bks.cons hg8.blk (Bks.cons o1.blk Bks.nil)) (fun H hS => Lod.ldn ag28 rfl hS.hd ((take_mid hc8 (Nat.le_of_ble_eq_true rfl)).trans rfl) rfl) ?_
  refine RegD.gtake (i := 35) rfl rfl rfl rfl rfl rfl (by kernel_rfl) (Bks.cons hg8.blk (Bks.cons o1.blk Bks.nil)) (fun H hS => Lod.ldn ag28 rfl hS.tl.hd (whole rfl) rfl) ?_
  refine RegD.gtpur (i := 36) rfl rfl rfl rfl rfl rfl (by kernel_rfl) (Pur.eqA eqt28 rfl rfl (fks_ints .i64 pureR) (fks_ints .i64 pureR)) ?_
  refine RegD.tpur (i := 37) rfl rfl rfl rfl (by kernel_rfl) (Pur.pickT rfl rfl) ?_
  refine RegD.tpur (i := 38) rfl rfl rfl rfl (by kernel_rfl) (Pur.mv rfl) ?_
  refine RegD.known (b' := true) 87 rfl (by rfl) ?_
  refine RegD.gtpur (i := 39) rfl rfl rfl rfl rfl rfl (by kernel_rfl) (Pur.mv rfl) ?_
  refine RegD.gtpur (i := 40) rfl rfl rfl rfl rfl rfl (by kernel_rfl) (Pur.idx _ es22 rfl rfl (by decide) (by simp)) ?_
  refine RegD.gtpur (i := 41) rfl rfl rfl rfl rfl rfl (by kernel_rfl) (Pur.fld _ fo49_0 rfl) ?_
  refine RegD.gtake (i := 42) rfl rfl rfl rfl rfl rfl (by kernel_rfl) (Bks.cons hg8.blk (Bks.cons o1.blk Bks.nil)) (fun H hS => Lod.ld sc3 rfl hS.hd (tk_at hc8 rfl)) ?_
  refine RegD.gtpur (i := 43) rfl rfl rfl rfl rfl rfl (by kernel_rfl) (Pur.eql rfl rfl) ?_
  refine RegD.tpur (i := 44) rfl rfl rfl rfl (by kernel_rfl) (Pur.pickT rfl rfl) ?_
  refine RegD.tpur (i := 45) rfl rfl rfl rfl (by kernel_rfl) (Pur.mv rfl) ?_
  refine RegD.known (b' := true) 94 rfl (by rfl) ?_
  refine RegD.gtpur (i := 46) rfl rfl rfl rfl rfl rfl (by kernel_rfl) (Pur.mv rfl) ?_
  refine RegD.gtpur (i := 47) rfl rfl rfl rfl rfl rfl (by kernel_rfl) (Pur.idx _ es22 rfl rfl (by decide) (by simp)) ?_
  refine RegD.gtpur (i := 48) rfl rfl rfl rfl rfl rfl (by kernel_rfl) (Pur.fld _ fo49_2 rfl) ?_
  refine RegD.gtake (i := 49) rfl rfl rfl rfl rfl rfl (by kernel_rfl) (Bks.cons hg8.blk (Bks.cons o1.blk Bks.nil)) (fun H hS => Lod.ldn ag25 rfl hS.hd ((take_mid hc8 (Nat.le_of_ble_eq_true rfl)).trans rfl) rfl) ?_
  refine RegD.gtpur (i := 50) rfl rfl rfl rfl rfl rfl (by kernel_rfl) (Pur.bld (cs := [_, _, _, _, _, _, _, _, _]) pl47 zc47 rfl rfl ⟨rfl, rfl, rfl, rfl, rfl, rfl, rfl, rfl, rfl, rfl⟩) ?_
  refine RegD.gone (i := 51) (by kernel_rfl) rfl rfl rfl rfl rfl rfl (Does.bslA ([Is (bNode false)]) slA23 rfl rfl rfl rfl rfl rfl) ?_
  rintro _ H8_51 ⟨rfl, hp8_51⟩
  have hn8_51 := New.of_eq hp8_51
  have z8_51 := hn8_51.size
  replace hE := hE.ext hn8_51.ext
  replace hSe := hSe.ext hn8_51.ext
  replace hSc := hSc.ext hn8_51.ext
  replace o1 := o1.ext hn8_51.ext
  replace o2 := o2.ext hn8_51.ext
  replace o3 := o3.ext hn8_51.ext
  replace hSl := hSl.ext hn8_51.ext
  replace hSf := hSf.ext hn8_51.ext
  replace o6_1 := o6_1.ext hn8_51.ext
  replace hg8 := hg8.ext hn8_51.ext
  replace hsl2 := hsl2.ext hn8_51.ext
  have o8_51 := hn8_51.own
  refine ⟨fun _ _ => (Bks.cons hg8.blk (Bks.cons o1.blk Bks.nil)), ?_⟩
  refine RegD.gtpur (i := 52) rfl rfl rfl rfl rfl rfl (by kernel_rfl) (Pur.bld (cs := [_]) pl25 zc25 rfl rfl ⟨rfl, rfl⟩) ?_
  refine RegD.gone (i := 53) (by kernel_rfl) rfl rfl rfl rfl rfl rfl (Does.call rfl (sameType_ok (L := [bNode false]) (L' := [bNode false]) (nine_lit rfl) (nine_lit rfl) hsl2 (sl_own (L := [bNode false]) (wide9 (nine_lit rfl)) (by decide) o8_51 (by decide)) (by decide))) ?_
  rintro _ H8_53 ⟨rfl, hE8_53⟩
  have z8_53 := hE8_53.lt
  replace hE := hE.ext hE8_53
  replace hSe := hSe.ext hE8_53
  replace hSc := hSc.ext hE8_53
  replace o1 := o1.ext hE8_53
  replace o2 := o2.ext hE8_53
  replace o3 := o3.ext hE8_53
  replace hSl := hSl.ext hE8_53
  replace hSf := hSf.ext hE8_53
  replace o6_1 := o6_1.ext hE8_53
  replace hg8 := hg8.ext hE8_53
  replace hsl2 := hsl2.ext hE8_53
  replace o8_51 := o8_51.ext hE8_53
  refine ⟨fun _ _ => (Bks.cons hg8.blk (Bks.cons o1.blk Bks.nil)), ?_⟩
  refine RegD.tpur (i := 54) rfl rfl rfl rfl (by kernel_rfl) (Pur.pickT rfl rfl) ?_
  refine RegD.tpur (i := 55) rfl rfl rfl rfl (by kernel_rfl) (Pur.mv rfl) ?_
  refine RegD.known (b' := true) 104 rfl (by rfl) ?_
  refine RegD.gtpur (i := 56) rfl rfl rfl rfl rfl rfl (by kernel_rfl) (Pur.mv rfl) ?_
  refine RegD.gone (i := 57) (by kernel_rfl) rfl rfl rfl rfl rfl rfl (Does.call rfl (numE_ok _ _)) ?_
  rintro _ H8_53 ⟨rfl, rfl⟩
  refine ⟨fun _ _ => (Bks.cons hg8.blk (Bks.cons o1.blk Bks.nil)), ?_⟩
  refine RegD.gtpur (i := 58) rfl rfl rfl rfl rfl rfl (by kernel_rfl) (Pur.eql rfl rfl) ?_
  refine RegD.tpur (i := 59) rfl rfl rfl rfl (by kernel_rfl) (Pur.pickT rfl rfl) ?_
  refine RegD.tpur (i := 60) rfl rfl rfl rfl (by kernel_rfl) (Pur.mv rfl) ?_
  refine RegD.known (b' := true) 109 rfl (by rfl) ?_
  refine RegD.gtpur (i := 61) rfl rfl rfl rfl rfl rfl (by kernel_rfl) (Pur.mv rfl) ?_
  refine RegD.gone (i := 62) (by kernel_rfl) rfl rfl rfl rfl rfl rfl (Does.call rfl (numE_ok _ _)) ?_
  rintro _ H8_53 ⟨rfl, rfl⟩
  refine ⟨fun _ _ => (Bks.cons hg8.blk (Bks.cons o1.blk Bks.nil)), ?_⟩
  refine RegD.gtpur (i := 63) rfl rfl rfl rfl rfl rfl (by kernel_rfl) (Pur.eql rfl rfl) ?_
  refine RegD.tpur (i := 64) rfl rfl rfl rfl (by kernel_rfl) (Pur.pickT rfl rfl) ?_
  refine RegD.tpur (i := 65) rfl rfl rfl rfl (by kernel_rfl) (Pur.mv rfl) ?_
  refine RegD.known (b' := true) 114 rfl (by rfl) ?_
  refine RegD.gtpur (i := 66) rfl rfl rfl rfl rfl rfl (by kernel_rfl) (Pur.mv rfl) ?_
  refine RegD.gone (i := 67) (by kernel_rfl) rfl rfl rfl rfl rfl rfl (Does.call rfl (numE_ok _ _)) ?_
  rintro _ H8_53 ⟨rfl, rfl⟩
  refine ⟨fun _ _ => (Bks.cons hg8.blk (Bks.cons o1.blk Bks.nil)), ?_⟩
  refine RegD.gtpur (i := 68) rfl rfl rfl rfl rfl rfl (by kernel_rfl) (Pur.eql rfl rfl) ?_
  refine RegD.tpur (i := 69) rfl rfl rfl rfl (by kernel_rfl) (Pur.pickT rfl rfl) ?_
  refine RegD.tpur (i := 70) rfl rfl rfl rfl (by kernel_rfl) (Pur.mv rfl) ?_
  refine RegD.known (b' := true) 119 rfl (by rfl) ?_
  refine RegD.gtpur (i := 71) rfl rfl rfl rfl rfl rfl (by kernel_rfl) (Pur.mv rfl) ?_
  refine RegD.gone (i := 72) (by kernel_rfl) rfl rfl rfl rfl rfl rfl (Does.call rfl (numE_ok _ _)) ?_
  rintro _ H8_53 ⟨rfl, rfl⟩
  refine ⟨fun _ _ => (Bks.cons hg8.blk (Bks.cons o1.blk Bks.nil)), ?_⟩
  refine RegD.gtpur (i := 73) rfl rfl rfl rfl rfl rfl (by kernel_rfl) (Pur.eql rfl rfl) ?_
  refine RegD.tpur (i := 74) rfl rfl rfl rfl (by kernel_rfl) (Pur.pickT rfl rfl) ?_
  refine RegD.tpur (i := 75) rfl rfl rfl rfl (by kernel_rfl) (Pur.asg rfl) ?_
  refine RegD.done (by kernel_rfl) ?_
  refine At.ret rfl Try.func46 rfl ?_
  exact ⟨rfl, hE⟩
end Go.Proofs.Ytlfillhffpiffaa

