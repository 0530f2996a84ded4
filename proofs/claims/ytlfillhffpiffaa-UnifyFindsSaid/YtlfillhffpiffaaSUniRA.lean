/-
  The reference's solver: fail, below, more, bind.
-/
import Derived.Test.YtlfillhffpiffaaS1
namespace Go.Proofs.Ytlfillhffpiffaa
set_option linter.unusedSimpArgs false
set_option linter.unusedVariables false
set_option maxRecDepth 8000
set_option maxHeartbeats 1000000
open Go Go.Fx Go.Proofs
namespace FactsUniRA
theorem ag25 : ag Try.prog 25 = some 1 := by kernel_rfl
theorem ag28 : ag Try.prog 28 = some 5 := by kernel_rfl
theorem ag49 : ag Try.prog 49 = some 8 := by kernel_rfl
theorem apt22 : appT Try.prog 22 = some (49, 8, 80) := by kernel_rfl
theorem es22 : esz Try.prog 22 = some 8 := by kernel_rfl
theorem es23 : esz Try.prog 23 = some 9 := by kernel_rfl
theorem fo127_0 : foff Try.prog 127 0 = some 0 := by kernel_rfl
theorem fo127_2 : foff Try.prog 127 2 = some 2 := by kernel_rfl
theorem fo25_0 : foff Try.prog 25 0 = some 0 := by kernel_rfl
theorem fo28_1 : foff Try.prog 28 1 = some 4 := by kernel_rfl
theorem fo47_0 : foff Try.prog 47 0 = some 0 := by kernel_rfl
theorem fo47_4 : foff Try.prog 47 4 = some 4 := by kernel_rfl
theorem fo49_1 : foff Try.prog 49 1 = some 1 := by kernel_rfl
theorem fo49_2 : foff Try.prog 49 2 = some 2 := by kernel_rfl
theorem fo49_3 : foff Try.prog 49 3 = some 3 := by kernel_rfl
theorem isl22 : isSl Try.prog 22 = true := by kernel_rfl
theorem isl23 : isSl Try.prog 23 = true := by kernel_rfl
theorem mixed : Try.prog.follows .mixedOrders = true := by kernel_rfl
theorem sc22 : sc Try.prog 22 = true := by kernel_rfl
theorem sc23 : sc Try.prog 23 = true := by kernel_rfl
theorem sc3 : sc Try.prog 3 = true := by kernel_rfl
theorem sc4 : sc Try.prog 4 = true := by kernel_rfl
theorem slA22 : slA Try.prog 22 = some (49, 8) := by kernel_rfl
theorem zc25 : zc Try.prog 25 = some [.slice none 0 0] := by kernel_rfl
theorem zc28 : zc Try.prog 28 = some [.int .i64 0, .int .i64 0, .int .i64 0, .int .i64 0, .int .i64 0] := by kernel_rfl
theorem zc49 : zc Try.prog 49 = some [.int .i64 0, .bool false, .slice none 0 0, .int .i64 0, .int .i64 0, .int .i64 0, .int .i64 0, .int .i64 0] := by kernel_rfl
end FactsUniRA
open FactsUniRA

/-- what a step of the reference's solver comes to -/
def RfP (H : Heap) (lo sb : Nat) (A : Option Addr) (r : Except Int Us) (H' : Heap) : Prop :=
  match r with
  | .ok u => ∃ A' cap' Bs', Slv H' lo sb A' cap' Bs' u.1 ∧ Own H' sb [.slice A' Bs'.length cap', I u.2, I 0] ∧ Md sb A A' H H'
  | .error c => (∃ x f, Own H' sb [x, f, I c]) ∧ c ≠ 0 ∧ But (fun g => lo ≤ g) H H'
theorem failR_ok {H : Heap} {sb : Nat} {x f : Value} {c : Int} (h : Own H sb [x, f, I 0]) : Ret Try.prog 107 [ptr sb 0, I c] H (fun _ H' => Upd H H' sb [x, f, I c]) := by
  refine Ret.of_at (N := 13) Try.call107 Try.func107 rfl rfl rfl ?_
  have hE := Ext.refl H
  have z_h := h.lt
  refine At.region rfl rfl ?_
  refine Reg.pur rfl rfl rfl rfl (Pur.mv rfl) ?_
  refine Reg.pur rfl rfl rfl rfl (Pur.nilc rfl) ?_
  refine Reg.pur rfl rfl rfl rfl (Pur.fld _ fo127_2 rfl) ?_
  refine Reg.lod rfl rfl rfl rfl (Lod.ld sc3 rfl h.blk rfl) ?_
  refine Reg.pur rfl rfl rfl rfl (Pur.eql rfl rfl) ?_
  refine Reg.nil ?_
  refine At.condT rfl rfl rfl ?_
  refine At.region rfl rfl ?_
  refine Reg.pur rfl rfl rfl rfl (Pur.mv rfl) ?_
  refine Reg.pur rfl rfl rfl rfl (Pur.mv rfl) ?_
  refine Reg.pur rfl rfl rfl rfl (Pur.nilc rfl) ?_
  refine Reg.pur rfl rfl rfl rfl (Pur.fld _ fo127_2 rfl) ?_
  refine Reg.op0 rfl rfl rfl (Does.st sc3 rfl rfl rfl h (by first | decide | (simp; done) | (simp; omega) | omega)) ?_
  rintro _ H1_4 hu1_4
  have z1_4 := hu1_4.size
  replace h := hu1_4.own
  refine Reg.nil ?_
  refine At.fall rfl Try.func107 rfl ?_
  exact hu1_4
theorem el_lt {L : List (List Int)} {i : Nat} (h : i < L.length) : el L (i : Int) = L[i] := el_nat h
theorem belowR_ok {L : List (List Int)} (h9 : Nine L) (hm : L.length ≤ 100000) {f : Int} {A : Option Addr} {cap : Nat} {H : Heap} (hS : SlT H Is 9 (.slice A L.length cap) L) :
    Ret Try.prog 78 [Ty A L.length cap, I f] H (fun v H' => v = .bool (!L.any (pLow f)) ∧ Ext H H') := by
  refine Ret.of_at (N := 31) Try.call78 Try.func78 rfl rfl rfl ?_
  have hE := Ext.refl H
  refine At.region rfl rfl ?_
  refine Reg.op rfl rfl rfl rfl (Does.box rfl rfl) ?_
  rintro _ H0_0 ⟨rfl, hn0_0⟩
  have z0_0 := hn0_0.size
  replace hE := hE.ext hn0_0.ext
  have o0_0 := hn0_0.own
  refine Reg.pur rfl rfl rfl rfl (Pur.asg rfl) ?_
  refine Reg.nil ?_
  refine At.region rfl rfl ?_
  refine Reg.pur rfl rfl rfl rfl (Pur.asg rfl) ?_
  refine Reg.nil ?_
  refine At.loop (σ := Nat) (fun i => [(5, I i), (2, ptr H.size 0), (1, I f)]) (fun i H' => i ≤ L.length ∧ Own H' H.size [.slice A L.length cap] ∧ (L.take i).any (pLow f) = false ∧ Ext H H') (fun i => L.length - i) 0 rfl ⟨rfl, rfl, rfl, trivial⟩ ⟨by omega, o0_0, rfl, hE⟩ ?_
  clear o0_0 hE
  rintro i H3 ⟨hi, o0_0, hgo, hE⟩ ih
  have z_hE := hE.lt
  have z_o0_0 := o0_0.lt
  refine At.region rfl rfl ?_
  refine Reg.pur rfl rfl rfl rfl (Pur.mv rfl) ?_
  refine Reg.pur rfl rfl rfl rfl (Pur.fld _ fo25_0 rfl) ?_
  refine Reg.lod rfl rfl rfl rfl (Lod.ld sc23 rfl o0_0.blk rfl) ?_
  refine Reg.pur rfl rfl rfl rfl (Pur.lenS isl23 rfl) ?_
  refine Reg.pur rfl rfl rfl rfl (Pur.lss rfl rfl) ?_
  refine Reg.nil ?_
  refine At.cond rfl rfl (fun q10 => ?_) (fun q10 => ?_)
  · first | (simp only [decide_eq_true_eq, decide_eq_false_iff_not, Bool.not_eq_true', Bool.not_eq_false', ne_eq, Decidable.not_not, Bool.not_eq_true, Bool.not_eq_false] at q10) | (dsimp only at q10) | skip
    have hlt : i < L.length := by omega
    obtain ⟨b, o, c, rfl, hB, hd, hx9, hat⟩ := el_cells h9 (hS.ext hE) (z := (i : Int)) (by omega) (by omega)
    rw [el_lt hlt] at hd hx9 hat
    have hany := any_take1 (p := pLow f) hlt
    rw [hgo] at hany
    refine At.region rfl rfl ?_
    refine Reg.pur rfl rfl rfl rfl (Pur.fld _ fo25_0 rfl) ?_
    refine Reg.lod rfl rfl rfl rfl (Lod.ld sc23 rfl o0_0.blk rfl) ?_
    refine Reg.pur rfl rfl rfl rfl (Pur.mv rfl) ?_
    refine Reg.pur rfl rfl rfl rfl (Pur.idx _ es23 rfl rfl (by omega) (by omega)) ?_
    refine Reg.pur rfl rfl rfl rfl (Pur.fld _ fo47_0 rfl) ?_
    refine Reg.lod rfl rfl rfl rfl (Lod.ld sc3 rfl hB (hat 0 (by decide))) ?_
    refine Reg.pur rfl rfl rfl rfl (Pur.eql rfl rfl) ?_
    refine Reg.pur rfl rfl rfl rfl (Pur.mv rfl) ?_
    refine Reg.case 20 rfl (fun q20 => ?_) (fun q20 => ?_)
    · first | (simp only [decide_eq_true_eq, decide_eq_false_iff_not, Bool.not_eq_true', Bool.not_eq_false', ne_eq, Decidable.not_not, Bool.not_eq_true, Bool.not_eq_false] at q20) | (dsimp only at q20) | skip
      refine Reg.gpur rfl rfl rfl rfl rfl rfl (Pur.fld _ fo25_0 rfl) ?_
      refine Reg.glod rfl rfl rfl rfl rfl rfl (Lod.ld sc23 rfl o0_0.blk rfl) ?_
      refine Reg.gpur rfl rfl rfl rfl rfl rfl (Pur.mv rfl) ?_
      refine Reg.gpur rfl rfl rfl rfl rfl rfl (Pur.idx _ es23 rfl rfl (by omega) (by omega)) ?_
      refine Reg.gpur rfl rfl rfl rfl rfl rfl (Pur.fld _ fo47_4 rfl) ?_
      refine Reg.gpur rfl rfl rfl rfl rfl rfl (Pur.fld _ fo28_1 rfl) ?_
      refine Reg.glod rfl rfl rfl rfl rfl rfl (Lod.ld sc3 rfl hB (hat 8 (by decide))) ?_
      refine Reg.gpur rfl rfl rfl rfl rfl rfl (Pur.mv rfl) ?_
      refine Reg.gpur rfl rfl rfl rfl rfl rfl (Pur.geq rfl rfl) ?_
      refine Reg.pur rfl rfl rfl rfl (Pur.pickT rfl rfl) ?_
      refine Reg.nil ?_
      refine At.cond rfl rfl (fun q30 => ?_) (fun q30 => ?_)
      · first | (simp only [decide_eq_true_eq, decide_eq_false_iff_not, Bool.not_eq_true', Bool.not_eq_false', ne_eq, Decidable.not_not, Bool.not_eq_true, Bool.not_eq_false] at q30) | (dsimp only at q30) | skip
        refine At.region rfl rfl ?_
        refine Reg.pur rfl rfl rfl rfl (Pur.asg rfl) ?_
        refine Reg.nil ?_
        refine At.ret rfl Try.func78 rfl ?_
        have hp : pLow f L[i] = true := by unfold pLow; simp_all
        exact ⟨by rw [List.any_eq_true.2 ⟨_, List.getElem_mem hlt, hp⟩]; rfl, hE⟩
      first | (simp only [decide_eq_true_eq, decide_eq_false_iff_not, Bool.not_eq_true', Bool.not_eq_false', ne_eq, Decidable.not_not, Bool.not_eq_true, Bool.not_eq_false] at q30) | (dsimp only at q30) | skip
      refine At.region rfl rfl ?_
      refine Reg.pur rfl rfl rfl rfl (Pur.mv rfl) ?_
      first | refine Reg.pur rfl rfl rfl rfl (Pur.add64 rfl rfl (by omega)) ?_ | refine Reg.pur rfl rfl rfl rfl (Pur.add64 rfl rfl (by assumption)) ?_ | refine Reg.pur rfl rfl rfl rfl (Pur.add rfl rfl) ?_
      refine Reg.pur rfl rfl rfl rfl (Pur.asg rfl) ?_
      refine Reg.nil ?_
      have hp : pLow f L[i] = false := by unfold pLow; simp_all
      exact At.via (ih (i + 1) _ ⟨by omega, o0_0, by rw [hany, hp]; rfl, hE⟩ (by omega)) ⟨rfl, rfl, rfl, trivial⟩
    first | (simp only [decide_eq_true_eq, decide_eq_false_iff_not, Bool.not_eq_true', Bool.not_eq_false', ne_eq, Decidable.not_not, Bool.not_eq_true, Bool.not_eq_false] at q20) | (dsimp only at q20) | skip
    refine Reg.skip rfl rfl rfl rfl rfl rfl rfl ?_
    refine Reg.skip rfl rfl rfl rfl rfl rfl rfl ?_
    refine Reg.skip rfl rfl rfl rfl rfl rfl rfl ?_
    refine Reg.skip rfl rfl rfl rfl rfl rfl rfl ?_
    refine Reg.skip rfl rfl rfl rfl rfl rfl rfl ?_
    refine Reg.skip rfl rfl rfl rfl rfl rfl rfl ?_
    refine Reg.skip rfl rfl rfl rfl rfl rfl rfl ?_
    refine Reg.skip rfl rfl rfl rfl rfl rfl rfl ?_
    refine Reg.skip rfl rfl rfl rfl rfl rfl rfl ?_
    refine Reg.pur rfl rfl rfl rfl (Pur.pickF rfl rfl) ?_
    refine Reg.nil ?_
    refine At.condF rfl rfl rfl ?_
    refine At.region rfl rfl ?_
    refine Reg.pur rfl rfl rfl rfl (Pur.mv rfl) ?_
    first | refine Reg.pur rfl rfl rfl rfl (Pur.add64 rfl rfl (by omega)) ?_ | refine Reg.pur rfl rfl rfl rfl (Pur.add64 rfl rfl (by assumption)) ?_ | refine Reg.pur rfl rfl rfl rfl (Pur.add rfl rfl) ?_
    refine Reg.pur rfl rfl rfl rfl (Pur.asg rfl) ?_
    refine Reg.nil ?_
    have hp : pLow f L[i] = false := by unfold pLow; simp_all
    exact At.via (ih (i + 1) _ ⟨by omega, o0_0, by rw [hany, hp]; rfl, hE⟩ (by omega)) ⟨rfl, rfl, rfl, trivial⟩
  first | (simp only [decide_eq_true_eq, decide_eq_false_iff_not, Bool.not_eq_true', Bool.not_eq_false', ne_eq, Decidable.not_not, Bool.not_eq_true, Bool.not_eq_false] at q10) | (dsimp only at q10) | skip
  refine At.region rfl rfl ?_
  refine Reg.pur rfl rfl rfl rfl (Pur.asg rfl) ?_
  refine Reg.nil ?_
  refine At.ret rfl Try.func78 rfl ?_
  rw [List.take_of_length_le (by omega)] at hgo
  exact ⟨by rw [hgo]; rfl, hE⟩
theorem cat_splice0 {c vs : List Value} {i m : Nat} (h : vs.length = m) : c.take (0 + (i : Int).toNat * 8) ++ vs ++ c.drop (0 + (i : Int).toNat * 8 + m) = splice c (i * 8 + 0) vs := by
  subst h; rw [Int.toNat_natCast, Nat.zero_add]; rfl
theorem splice_all {x v : List Value} (h : x.length = v.length) : splice x 0 v = v := by
  unfold splice; rw [List.drop_eq_nil_of_le (by omega)]; simp
theorem enc_row {x : Bd} (h : x.row.length = 5) : ((encB x).drop (0 + 3)).take 5 = Is x.row := by
  simp [Is]; rw [List.take_of_length_le (by simp [h])]
theorem oks256 {b : Bt} {bd : Bd} (h : pl bd = b.pl) (hb : b.ok) : bd.nodes.length ≤ 256 := by
  cases b with
  | t v u => have : bd.nodes = u.enc 0 := congrArg (fun p => p.2.2.1) h; rw [this, Tm.enc_len]; exact hb.2
  | r v s => have : bd.nodes = [] := congrArg (fun p => p.2.2.1) h; rw [this]; exact Nat.zero_le _
def addR (b : Bt) (s : Us) : Except Int Us := match addB b s.1 with | some l => .ok (l, s.2) | none => .error 1003
theorem more_ok {H : Heap} {lo sb cap : Nat} {A : Option Addr} {Bs : List Bd} {s : Us} (h : Slv H lo sb A cap Bs s.1) (hs : Own H sb [.slice A Bs.length cap, I s.2, I 0]) {bd : Bd} {b : Bt} (hb : Bes H lo sb A Bs bd b) (hl : Bs.length < 100000) :
    Ret Try.prog 134 [ptr sb 0, .agg (encB bd).toArray] H (fun _ => RfP H lo sb A (addR b s)) := by
  have h8 : (encB bd).length = 8 := hb.ok.len
  have h256 := oks256 hb.pl hb.tok
  unfold addR
  generalize hTs : s.1 = Ts at h
  refine Ret.of_at (N := 73) Try.call134 Try.func134 rfl rfl rfl ?_
  have hE := Ext.refl H
  have z_hE := hE.lt
  have z_hs := hs.lt
  refine At.region rfl rfl ?_
  refine Reg.op rfl rfl rfl rfl (Does.box rfl rfl) ?_
  rintro _ H0_0 ⟨rfl, hn0_0⟩
  have z0_0 := hn0_0.size
  replace hE := hE.ext hn0_0.ext
  replace hs := hs.ext hn0_0.ext
  have o0_0 := hn0_0.own
  refine Reg.nil ?_
  refine At.region rfl rfl ?_
  refine Reg.lod rfl rfl rfl rfl (Lod.ldn ag49 rfl o0_0.blk (whole h8) h8) ?_
  refine Reg.op rfl rfl rfl rfl (Does.bslA ([encB bd]) slA22 rfl rfl rfl (by simp [h8]) rfl rfl) ?_
  rintro _ H1_1 ⟨rfl, hp1_1⟩
  have hn1_1 := New.of_eq hp1_1
  have z1_1 := hn1_1.size
  replace hE := hE.ext hn1_1.ext
  replace hs := hs.ext hn1_1.ext
  replace o0_0 := o0_0.ext hn1_1.ext
  have o1_1 := hn1_1.own
  refine Reg.pur rfl rfl rfl rfl (Pur.asg rfl) ?_
  refine Reg.nil ?_
  refine At.region rfl rfl ?_
  refine Reg.pur rfl rfl rfl rfl (Pur.asg rfl) ?_
  refine Reg.nil ?_
  refine At.loop (σ := Nat × List Bd × List Bt) (fun (i, Bs', Ts') => [(5, I i), (4, .slice (some ⟨H0_0.size, 0, none⟩) 1 1), (0, ptr sb 0), (3, ptr H.size 0)]) (fun (i, Bs', Ts') H' => i ≤ Bs.length ∧ Bs'.length = Bs.length ∧ Slv H' lo sb A cap Bs' Ts' ∧ addB b Ts = (addB b (Ts'.drop i)).map (Ts'.take i ++ ·) ∧ Own H' sb [.slice A Bs'.length cap, I s.2, I 0] ∧ Own H' H.size (encB bd) ∧ Own H' H0_0.size ([bd].flatMap encB) ∧ Bes H' lo sb A Bs' bd b ∧ Md sb A A H H') (fun (i, Bs', Ts') => Bs.length - i) (0, Bs, Ts) rfl ⟨rfl, rfl, rfl, rfl, trivial⟩ ⟨by omega, rfl, h.ext hE, by simp, hs, o0_0, o1_1, hb.ext hE, (Md.refl _ _ _).ext hE⟩ ?_
  have hlt0 := hn0_0.size
  have hsb0 := z_hs
  have hgl := h.lt
  clear h hb hs o0_0 o1_1 hE
  rintro ⟨i, Bs', Ts'⟩ H3 ⟨hi, hll, hSl, hadd, hs, o0_0, o1_1, hBe, hM⟩ ih
  dsimp only at hi hll hSl hadd hs hBe ⊢
  have hE := Ext.refl H3
  have hHM := hM.1.1
  have z_hE := hE.lt
  have z_hs := hs.lt
  have z_o0_0 := o0_0.lt
  have z_o1_1 := o1_1.lt
  refine At.region rfl rfl ?_
  refine Reg.pur rfl rfl rfl rfl (Pur.mv rfl) ?_
  refine Reg.pur rfl rfl rfl rfl (Pur.mv rfl) ?_
  refine Reg.pur rfl rfl rfl rfl (Pur.nilc rfl) ?_
  refine Reg.pur rfl rfl rfl rfl (Pur.fld _ fo127_0 rfl) ?_
  refine Reg.lod rfl rfl rfl rfl (Lod.ld sc22 rfl hs.blk rfl) ?_
  refine Reg.pur rfl rfl rfl rfl (Pur.lenS isl22 rfl) ?_
  refine Reg.pur rfl rfl rfl rfl (Pur.lss rfl rfl) ?_
  refine Reg.nil ?_
  refine At.cond rfl rfl (fun q20 => ?_) (fun q20 => ?_)
  · first | (simp only [decide_eq_true_eq, decide_eq_false_iff_not, Bool.not_eq_true', Bool.not_eq_false', ne_eq, Decidable.not_not, Bool.not_eq_true, Bool.not_eq_false] at q20) | (dsimp only at q20) | skip
    have hi' : i < Bs'.length := by omega
    have hj' : i < Ts'.length := by rw [hSl.lenT]; exact hi'
    obtain ⟨hstn, hsts⟩ := addB_step hj' hadd
    have hpi := pl_at hSl.pl hi' hj'
    have htk := hSl.tok _ (List.getElem_mem hj')
    have hoki := hSl.ok _ (List.getElem_mem hi')
    obtain ⟨g, c, rfl, hT, hc, hcl, hcap, hlg⟩ := hSl.blk (by omega)
    rw [ob_some] at hgl
    have hd := row_rd hSl.wide hi' hc
    have hd' : (c.drop (0 + (i : Int).toNat * 8)).take 8 = encB Bs'[i] := by rw [Int.toNat_natCast, Nat.zero_add]; exact hd
    have z_hT := hT.lt
    refine At.region rfl rfl ?_
    refine Reg.pur rfl rfl rfl rfl (Pur.mv rfl) ?_
    refine Reg.pur rfl rfl rfl rfl (Pur.nilc rfl) ?_
    refine Reg.pur rfl rfl rfl rfl (Pur.fld _ fo127_0 rfl) ?_
    refine Reg.lod rfl rfl rfl rfl (Lod.ld sc22 rfl hs.blk rfl) ?_
    refine Reg.pur rfl rfl rfl rfl (Pur.mv rfl) ?_
    refine Reg.pur rfl rfl rfl rfl (Pur.idx _ es22 rfl rfl (by omega) (by omega)) ?_
    refine Reg.lod rfl rfl rfl rfl (Lod.ldn ag49 rfl hT.blk hd' hoki.len) ?_
    refine Reg.op rfl rfl rfl rfl (Does.alloc zc49) ?_
    rintro _ H5_7 ⟨rfl, hn5_7⟩
    have z5_7 := hn5_7.size
    replace hE := hE.ext hn5_7.ext
    replace hs := hs.ext hn5_7.ext
    replace o0_0 := o0_0.ext hn5_7.ext
    replace o1_1 := o1_1.ext hn5_7.ext
    replace hT := hT.ext hn5_7.ext
    have o5_7 := hn5_7.own
    refine Reg.op0 rfl rfl rfl (Does.stn ag49 rfl rfl (ones_encB _) hoki.len o5_7 (Nat.le_refl _)) ?_
    rintro _ H5_8 hu5_8
    have z5_8 := hu5_8.size
    replace hE := hE.upw hu5_8 (by omega)
    replace hs := hs.upw hu5_8 (by omega)
    replace o0_0 := o0_0.upw hu5_8 (by omega)
    replace o1_1 := o1_1.upw hu5_8 (by omega)
    replace hT := hT.upw hu5_8 (by omega)
    replace o5_7 := hu5_8.own
    first | rw [over (by first | rfl | (simp; done))] at o5_7 | skip
    replace o5_7 := o5_7.of (c' := encB Bs'[i]) (by simp)
    refine Reg.nil ?_
    refine At.region rfl rfl ?_
    refine Reg.pur rfl rfl rfl rfl (Pur.asg rfl) ?_
    refine Reg.nil ?_
    refine At.region rfl rfl ?_
    refine Reg.pur rfl rfl rfl rfl (Pur.fld _ fo49_1 rfl) ?_
    refine Reg.lod rfl rfl rfl rfl (Lod.ld sc4 rfl o5_7.blk rfl) ?_
    refine Reg.nil ?_
    refine At.cond rfl rfl (fun q31 => ?_) (fun q31 => ?_)
    · first | (simp only [decide_eq_true_eq, decide_eq_false_iff_not, Bool.not_eq_true', Bool.not_eq_false', ne_eq, Decidable.not_not, Bool.not_eq_true, Bool.not_eq_false] at q31) | (dsimp only at q31) | skip
      have hno : ∃ v s, Ts'[i] = .r v s := by { generalize Ts'[i] = x at hpi; cases x with | r v s => exact ⟨v, s, rfl⟩ | t v u => exact absurd ((congrArg (fun p ↦ p.2.1) hpi).symm.trans q31) (by simp [Bt.pl]) }
      obtain ⟨v0, s0, hts⟩ := hno
      rw [hts] at hpi htk hstn hsts
      have hrow : Bs'[i].row = s0 := congrArg (fun p ↦ p.2.2.2) hpi
      have hnod : Bs'[i].nodes = [] := congrArg (fun p ↦ p.2.2.1) hpi
      have hvar : Bs'[i].var = v0 := congrArg (fun p ↦ p.1) hpi
      have hq : rowS [bd] Bs'[i].row = rwP (rwS [b] s0) := by { rw [hrow]; exact rowS_rw (by simp [hBe.pl]) s0 }
      refine At.region rfl rfl ?_
      refine Reg.pur rfl rfl rfl rfl (Pur.mv rfl) ?_
      refine Reg.pur rfl rfl rfl rfl (Pur.fld _ fo49_3 rfl) ?_
      refine Reg.lod rfl rfl rfl rfl (Lod.ldn ag28 rfl o5_7.blk (enc_row hoki.row) (by simp [hoki.row])) ?_
      refine Reg.op rfl rfl rfl rfl (Does.call rfl (rowOf_ok (bds_own1 (hBe.ok.ext hE) o1_1) Bs'[i].row hoki.row)) ?_
      rintro _ H8_3 ⟨rfl, hlen, hE8_3⟩
      have z8_3 := hE8_3.lt
      replace hE := hE.ext hE8_3
      replace hs := hs.ext hE8_3
      replace o0_0 := o0_0.ext hE8_3
      replace o1_1 := o1_1.ext hE8_3
      replace hT := hT.ext hE8_3
      replace o5_7 := o5_7.ext hE8_3
      rw [hq] at hlen
      try rw [hq]
      refine Reg.pur rfl rfl rfl rfl (Pur.mv rfl) ?_
      refine Reg.pur rfl rfl rfl rfl (Pur.ext rfl rfl) ?_
      refine Reg.pur rfl rfl rfl rfl (Pur.ext rfl rfl) ?_
      refine Reg.op rfl rfl rfl rfl (Does.alloc zc28) ?_
      rintro _ H8_7 ⟨rfl, hn8_7⟩
      have z8_7 := hn8_7.size
      replace hE := hE.ext hn8_7.ext
      replace hs := hs.ext hn8_7.ext
      replace o0_0 := o0_0.ext hn8_7.ext
      replace o1_1 := o1_1.ext hn8_7.ext
      replace hT := hT.ext hn8_7.ext
      replace o5_7 := o5_7.ext hn8_7.ext
      have o8_7 := hn8_7.own
      refine Reg.op0 rfl rfl rfl (Does.stn ag28 rfl rfl (ones_Is _) (by simp [hlen]) o8_7 (Nat.le_refl _)) ?_
      rintro _ H8_8 hu8_8
      have z8_8 := hu8_8.size
      replace hE := hE.upw hu8_8 (by omega)
      replace hs := hs.upw hu8_8 (by omega)
      replace o0_0 := o0_0.upw hu8_8 (by omega)
      replace o1_1 := o1_1.upw hu8_8 (by omega)
      replace hT := hT.upw hu8_8 (by omega)
      replace o5_7 := o5_7.upw hu8_8 (by omega)
      replace o8_7 := hu8_8.own
      first | rw [over (by first | rfl | (simp; done))] at o8_7 | skip
      replace o8_7 := o8_7.of (c' := Is (rwP (rwS [b] s0)).1) (by simp)
      refine Reg.pur rfl rfl rfl rfl (Pur.asg rfl) ?_
      refine Reg.nil ?_
      refine At.region rfl rfl ?_
      refine Reg.lod rfl rfl rfl rfl (Lod.ldn ag28 rfl o8_7.blk (whole (by simp [hlen])) (by simp [hlen])) ?_
      refine Reg.pur rfl rfl rfl rfl (Pur.fld _ fo49_3 rfl) ?_
      refine Reg.op0 rfl rfl rfl (Does.stn ag28 rfl rfl (ones_Is _) (by simp [hlen]) o5_7 (by rw [hoki.len]; decide)) ?_
      rintro _ H9_2 hu9_2
      have z9_2 := hu9_2.size
      replace hE := hE.upw hu9_2 (by omega)
      replace hs := hs.upw hu9_2 (by omega)
      replace o0_0 := o0_0.upw hu9_2 (by omega)
      replace o1_1 := o1_1.upw hu9_2 (by omega)
      replace hT := hT.upw hu9_2 (by omega)
      replace o8_7 := o8_7.upw hu9_2 (by omega)
      replace o5_7 := hu9_2.own
      first | rw [over (by first | rfl | (simp; done))] at o5_7 | skip
      replace o5_7 := o5_7.of (c' := encB { Bs'[i] with row := (rwP (rwS [b] s0)).1 }) (by rw [← sp_row hoki.row hlen]; unfold splice; simp [hlen])
      refine Reg.nil ?_
      refine At.region rfl rfl ?_
      refine Reg.pur rfl rfl rfl rfl (Pur.mv rfl) ?_
      refine Reg.pur rfl rfl rfl rfl (Pur.asg rfl) ?_
      refine Reg.nil ?_
      refine At.region rfl rfl ?_
      refine Reg.pur rfl rfl rfl rfl (Pur.mv rfl) ?_
      refine Reg.pur rfl rfl rfl rfl (Pur.not rfl) ?_
      refine Reg.nil ?_
      refine At.cond rfl rfl (fun q53 => ?_) (fun q53 => ?_)
      · first | (simp only [decide_eq_true_eq, decide_eq_false_iff_not, Bool.not_eq_true', Bool.not_eq_false', ne_eq, Decidable.not_not, Bool.not_eq_true, Bool.not_eq_false] at q53) | (dsimp only at q53) | skip
        refine At.region rfl rfl ?_
        refine Reg.pur rfl rfl rfl rfl (Pur.mv rfl) ?_
        have hE15 := hE

        refine Reg.op rfl rfl rfl rfl (Does.call rfl (failR_ok hs)) ?_
        rintro _ H15_1 hu15_1
        have z15_1 := hu15_1.size
        replace o0_0 := o0_0.upw hu15_1 (by omega)
        replace o1_1 := o1_1.upw hu15_1 (by omega)
        replace hT := hT.upw hu15_1 (by omega)
        replace o5_7 := o5_7.upw hu15_1 (by omega)
        replace o8_7 := o8_7.upw hu15_1 (by omega)
        refine Reg.nil ?_
        refine At.ret rfl Try.func134 rfl ?_
        have hr0 : rwS [b] s0 = none := none_of ((rwP_snd _).symm.trans q53)
        rw [hstn (by simp [sub1, hr0])]
        exact ⟨⟨_, _, hu15_1.own⟩, by decide, ((hM.low hSl.lo hgl.2.1).trans hE15.but).trans (hu15_1.but.mono (fun b hb e => by rw [e]; exact hSl.lo))⟩
      first | (simp only [decide_eq_true_eq, decide_eq_false_iff_not, Bool.not_eq_true', Bool.not_eq_false', ne_eq, Decidable.not_not, Bool.not_eq_true, Bool.not_eq_false] at q53) | (dsimp only at q53) | skip
      refine At.drawE ((Bks.cons hs.blk (Bks.cons o5_7.blk Bks.nil))) [7] mixed rfl rfl ?_
      refine RegD.tpur (i := 0) rfl rfl rfl rfl (by kernel_rfl) (Pur.mv rfl) ?_
      refine RegD.tpur (i := 1) rfl rfl rfl rfl (by kernel_rfl) (Pur.nilc rfl) ?_
      refine RegD.tpur (i := 2) rfl rfl rfl rfl (by kernel_rfl) (Pur.fld _ fo127_0 rfl) ?_
      refine RegD.take (i := 3) rfl rfl rfl rfl (by kernel_rfl) (Bks.cons hs.blk (Bks.cons o5_7.blk Bks.nil)) (fun H hS => Lod.ld sc22 rfl hS.hd rfl) ?_
      refine RegD.tpur (i := 4) rfl rfl rfl rfl (by kernel_rfl) (Pur.mv rfl) ?_
      refine RegD.take (i := 5) rfl rfl rfl rfl (by kernel_rfl) (Bks.cons hs.blk (Bks.cons o5_7.blk Bks.nil)) (fun H hS => Lod.ldn ag49 rfl hS.tl.hd (whole (by first | (simp [hlen]; done) | (simp [hoki.row]; done))) (by first | (simp [hlen]; done) | (simp [hoki.row]; done))) ?_
      refine RegD.tpur (i := 6) rfl rfl rfl rfl (by kernel_rfl) (Pur.idx _ es22 rfl rfl (by omega) (by omega)) ?_
      have hE16 := hE

      refine RegD.one0 (i := 7) (by kernel_rfl) rfl rfl rfl (Does.stnT ag49 rfl rfl (ones_encB _) (by first | (simp [hlen]; done) | (simp [hoki.row]; done)) hT (by rw [hcl, Int.toNat_natCast]; omega)) ?_
      rintro _ H16_7 ⟨hu16_7, ht16_7⟩
      have z16_7 := hu16_7.size
      replace hs := hs.upw hu16_7 (by omega)
      replace o0_0 := o0_0.upw hu16_7 (by omega)
      replace o1_1 := o1_1.upw hu16_7 (by omega)
      replace o5_7 := o5_7.upw hu16_7 (by omega)
      replace o8_7 := o8_7.upw hu16_7 (by omega)
      replace hT := ht16_7
      refine ⟨fun h => (by cases h), ?_⟩
      refine RegD.done (by kernel_rfl) ?_
      refine At.region rfl rfl ?_
      refine Reg.pur rfl rfl rfl rfl (Pur.mv rfl) ?_
      first | refine Reg.pur rfl rfl rfl rfl (Pur.add64 rfl rfl (by omega)) ?_ | refine Reg.pur rfl rfl rfl rfl (Pur.add64 rfl rfl (by assumption)) ?_ | refine Reg.pur rfl rfl rfl rfl (Pur.add rfl rfl) ?_
      refine Reg.pur rfl rfl rfl rfl (Pur.asg rfl) ?_
      refine Reg.nil ?_
      obtain ⟨s1, hs1⟩ := some_of ((rwP_snd _).symm.trans q53)
      rw [hs1] at hlen hu16_7 hT
      have h5 : s1.length = 5 := hlen
      dsimp only [rwP] at hu16_7 hT
      have h8n : (encB { Bs'[i] with row := s1 }).length = 8 := by simp [h5]
      rw [cat_splice0 (vs := encB { Bs'[i] with row := s1 }) (m := 8) h8n] at hu16_7 hT
      have hst := hsts (.r v0 s1) (by simp [sub1, hs1])
      have hok8 := (hSl.ext hE16).ok _ (List.getElem_mem hi')
      have hset := (hSl.ext hE16).set hi' (bd := { Bs'[i] with row := s1 }) (b := .r v0 s1) (by simp [pl, Bt.pl, hvar, hnod, q31]) (rw_ok (fun x hx => by rw [List.mem_singleton.1 hx]; exact hBe.tok) htk.1 htk.2 hs1) ⟨hok8.sl, hok8.nine, h5, hok8.fits⟩ (show Gw _ _ _ Bs'[i].A Bs'[i].cap Bs'[i].nodes.length (Bs'[i].nodes.flatMap Is) from (hSl.ext hE16).wr _ (List.getElem_mem hi')) (.inl (by simp [hnod])) (fun j hj hij => .inl (by simp [hnod])) hc (by rw [h8n]; decide) (splice_all (by rw [h8n]; exact hoki.len)) hcl hu16_7 hT
      exact At.via (ih (i + 1, Bs'.set i { Bs'[i] with row := s1 }, Ts'.set i (.r v0 s1)) _ ⟨by omega, by rw [List.length_set]; exact hll, hset, hst, by rw [List.length_set]; exact hs, o0_0, o1_1, (hBe.ext hE16).set hu16_7 (.inr (.inl (by simp [hnod]))), (hM.ext hE16).set hu16_7⟩ (by simp only; omega)) ⟨rfl, rfl, rfl, rfl, trivial⟩
    first | (simp only [decide_eq_true_eq, decide_eq_false_iff_not, Bool.not_eq_true', Bool.not_eq_false', ne_eq, Decidable.not_not, Bool.not_eq_true, Bool.not_eq_false] at q31) | (dsimp only at q31) | skip
    have hno : ∃ v u, Ts'[i] = .t v u := by { generalize Ts'[i] = x at hpi; cases x with | t v u => exact ⟨v, u, rfl⟩ | r v s => exact absurd ((congrArg (fun p ↦ p.2.1) hpi).symm.trans q31) (by simp [Bt.pl]) }
    obtain ⟨v0, u0, hts⟩ := hno
    rw [hts] at hpi htk hstn hsts
    have hrow : Bs'[i].row = noRow := congrArg (fun p ↦ p.2.2.2) hpi
    have hnod : Bs'[i].nodes = u0.enc 0 := congrArg (fun p ↦ p.2.2.1) hpi
    have hvar : Bs'[i].var = v0 := congrArg (fun p ↦ p.1) hpi
    have hq : typS [bd] Bs'[i].nodes = (tys [b] u0).map (·.enc 0) := by { rw [hnod]; exact typS_tys (by simp [hBe.pl]) (fun x hx ↦ by rw [List.mem_singleton.1 hx]; exact hBe.tok) u0 }
    refine At.region rfl rfl ?_
    refine Reg.pur rfl rfl rfl rfl (Pur.mv rfl) ?_
    refine Reg.pur rfl rfl rfl rfl (Pur.fld _ fo49_2 rfl) ?_
    refine Reg.lod rfl rfl rfl rfl (Lod.ldn ag25 rfl o5_7.blk rfl rfl) ?_
    refine Reg.op rfl rfl rfl rfl (Does.call rfl (typeOf_ok (bds_own1 (hBe.ok.ext hE) o1_1) (fun x hx ↦ by rw [List.mem_singleton.1 hx]; exact h256) (hoki.sl.ext hE) hoki.nine (by rw [hnod]; exact enc_typ htk.1 htk.2))) ?_
    rintro v11_3 H11_3 ⟨hE11_3, hT0⟩
    have z11_3 := hE11_3.lt
    replace hE := hE.ext hE11_3
    replace hs := hs.ext hE11_3
    replace o0_0 := o0_0.ext hE11_3
    replace o1_1 := o1_1.ext hE11_3
    replace hT := hT.ext hE11_3
    replace o5_7 := o5_7.ext hE11_3
    rw [hq] at hT0
    obtain ⟨w, rfl, hT1⟩ := TypB.o hT0
    obtain ⟨A2, c2, rfl, hG, hN, hl2⟩ := hT1
    have z_hG := hG.lt
    refine Reg.pur rfl rfl rfl rfl (Pur.mv rfl) ?_
    refine Reg.pur rfl rfl rfl rfl (Pur.ext rfl rfl) ?_
    refine Reg.pur rfl rfl rfl rfl (Pur.ext rfl rfl) ?_
    refine Reg.op rfl rfl rfl rfl (Does.alloc zc25) ?_
    rintro _ H11_7 ⟨rfl, hn11_7⟩
    have z11_7 := hn11_7.size
    replace hE := hE.ext hn11_7.ext
    replace hs := hs.ext hn11_7.ext
    replace o0_0 := o0_0.ext hn11_7.ext
    replace o1_1 := o1_1.ext hn11_7.ext
    replace hT := hT.ext hn11_7.ext
    replace o5_7 := o5_7.ext hn11_7.ext
    replace hG := hG.ext hn11_7.ext
    have o11_7 := hn11_7.own
    refine Reg.op0 rfl rfl rfl (Does.stn ag25 rfl rfl (by first | rfl | exact ones_Is _) (by first | rfl | (simp [*]; done)) o11_7 (by first | decide | (simp; done) | (simp; omega) | omega)) ?_
    rintro _ H11_8 hu11_8
    have z11_8 := hu11_8.size
    replace hE := hE.upw hu11_8 (by omega)
    replace hs := hs.upw hu11_8 (by omega)
    replace o0_0 := o0_0.upw hu11_8 (by omega)
    replace o1_1 := o1_1.upw hu11_8 (by omega)
    replace hT := hT.upw hu11_8 (by omega)
    replace o5_7 := o5_7.upw hu11_8 (by omega)
    replace hG := hG.upw hu11_8 (by omega)
    replace o11_7 := hu11_8.own
    first | rw [over (by first | rfl | (simp; done))] at o11_7 | skip
    refine Reg.pur rfl rfl rfl rfl (Pur.asg rfl) ?_
    refine Reg.nil ?_
    refine At.region rfl rfl ?_
    refine Reg.lod rfl rfl rfl rfl (Lod.ldn ag25 rfl o11_7.blk (whole rfl) rfl) ?_
    refine Reg.pur rfl rfl rfl rfl (Pur.fld _ fo49_2 rfl) ?_
    refine Reg.op0 rfl rfl rfl (Does.stn ag25 rfl rfl (by first | rfl | exact ones_Is _) (by first | rfl | (simp [*]; done)) o5_7 (by rw [hoki.len]; decide)) ?_
    rintro _ H12_2 hu12_2
    have z12_2 := hu12_2.size
    replace hE := hE.upw hu12_2 (by omega)
    replace hs := hs.upw hu12_2 (by omega)
    replace o0_0 := o0_0.upw hu12_2 (by omega)
    replace o1_1 := o1_1.upw hu12_2 (by omega)
    replace hT := hT.upw hu12_2 (by omega)
    replace hG := hG.upw hu12_2 (by omega)
    replace o11_7 := o11_7.upw hu12_2 (by omega)
    replace o5_7 := hu12_2.own
    first | rw [over (by first | rfl | (simp; done))] at o5_7 | skip
    have hG0 := hG
    refine Reg.nil ?_
    refine At.region rfl rfl ?_
    refine Reg.pur rfl rfl rfl rfl (Pur.mv rfl) ?_
    refine Reg.pur rfl rfl rfl rfl (Pur.asg rfl) ?_
    refine Reg.nil ?_
    refine At.region rfl rfl ?_
    refine Reg.pur rfl rfl rfl rfl (Pur.mv rfl) ?_
    refine Reg.pur rfl rfl rfl rfl (Pur.not rfl) ?_
    refine Reg.nil ?_
    refine At.cond rfl rfl (fun q53 => ?_) (fun q53 => ?_)
    · first | (simp only [decide_eq_true_eq, decide_eq_false_iff_not, Bool.not_eq_true', Bool.not_eq_false', ne_eq, Decidable.not_not, Bool.not_eq_true, Bool.not_eq_false] at q53) | (dsimp only at q53) | skip
      refine At.region rfl rfl ?_
      refine Reg.pur rfl rfl rfl rfl (Pur.mv rfl) ?_
      have hE15 := hE

      refine Reg.op rfl rfl rfl rfl (Does.call rfl (failR_ok hs)) ?_
      rintro _ H15_1 hu15_1
      have z15_1 := hu15_1.size
      replace o0_0 := o0_0.upw hu15_1 (by omega)
      replace o1_1 := o1_1.upw hu15_1 (by omega)
      replace hT := hT.upw hu15_1 (by omega)
      replace o5_7 := o5_7.upw hu15_1 (by omega)
      replace hG := hG.upw hu15_1 (by omega)
      replace o11_7 := o11_7.upw hu15_1 (by omega)
      refine Reg.nil ?_
      refine At.ret rfl Try.func134 rfl ?_
      have hr0 : tys [b] u0 = none := none_of q53
      rw [hstn (by simp [sub1, hr0])]
      exact ⟨⟨_, _, hu15_1.own⟩, by decide, ((hM.low hSl.lo hgl.2.1).trans hE15.but).trans (hu15_1.but.mono (fun b hb e => by rw [e]; exact hSl.lo))⟩
    first | (simp only [decide_eq_true_eq, decide_eq_false_iff_not, Bool.not_eq_true', Bool.not_eq_false', ne_eq, Decidable.not_not, Bool.not_eq_true, Bool.not_eq_false] at q53) | (dsimp only at q53) | skip
    refine At.drawE ((Bks.cons hs.blk (Bks.cons o5_7.blk Bks.nil))) [7] mixed rfl rfl ?_
    refine RegD.tpur (i := 0) rfl rfl rfl rfl (by kernel_rfl) (Pur.mv rfl) ?_
    refine RegD.tpur (i := 1) rfl rfl rfl rfl (by kernel_rfl) (Pur.nilc rfl) ?_
    refine RegD.tpur (i := 2) rfl rfl rfl rfl (by kernel_rfl) (Pur.fld _ fo127_0 rfl) ?_
    refine RegD.take (i := 3) rfl rfl rfl rfl (by kernel_rfl) (Bks.cons hs.blk (Bks.cons o5_7.blk Bks.nil)) (fun H hS => Lod.ld sc22 rfl hS.hd rfl) ?_
    refine RegD.tpur (i := 4) rfl rfl rfl rfl (by kernel_rfl) (Pur.mv rfl) ?_
    refine RegD.take (i := 5) rfl rfl rfl rfl (by kernel_rfl) (Bks.cons hs.blk (Bks.cons o5_7.blk Bks.nil)) (fun H hS => Lod.ldn ag49 rfl hS.tl.hd (whole (by first | (simp [hlen]; done) | (simp [hoki.row]; done))) (by first | (simp [hlen]; done) | (simp [hoki.row]; done))) ?_
    refine RegD.tpur (i := 6) rfl rfl rfl rfl (by kernel_rfl) (Pur.idx _ es22 rfl rfl (by omega) (by omega)) ?_
    have hE16 := hE

    refine RegD.one0 (i := 7) (by kernel_rfl) rfl rfl rfl (Does.stnT ag49 rfl rfl (ones_encB _) (by first | (simp [hlen]; done) | (simp [hoki.row]; done)) hT (by rw [hcl, Int.toNat_natCast]; omega)) ?_
    rintro _ H16_7 ⟨hu16_7, ht16_7⟩
    have z16_7 := hu16_7.size
    replace hs := hs.upw hu16_7 (by omega)
    replace o0_0 := o0_0.upw hu16_7 (by omega)
    replace o1_1 := o1_1.upw hu16_7 (by omega)
    replace o5_7 := o5_7.upw hu16_7 (by omega)
    replace hG := hG.upw hu16_7 (by omega)
    replace o11_7 := o11_7.upw hu16_7 (by omega)
    replace hT := ht16_7
    refine ⟨fun h => (by cases h), ?_⟩
    refine RegD.done (by kernel_rfl) ?_
    refine At.region rfl rfl ?_
    refine Reg.pur rfl rfl rfl rfl (Pur.mv rfl) ?_
    first | refine Reg.pur rfl rfl rfl rfl (Pur.add64 rfl rfl (by omega)) ?_ | refine Reg.pur rfl rfl rfl rfl (Pur.add64 rfl rfl (by assumption)) ?_ | refine Reg.pur rfl rfl rfl rfl (Pur.add rfl rfl) ?_
    refine Reg.pur rfl rfl rfl rfl (Pur.asg rfl) ?_
    refine Reg.nil ?_
    obtain ⟨u1, hu1⟩ := some_of q53
    rw [hu1] at hG0 hN hl2 hu16_7 hT
    dsimp only at hG0 hN hl2 hu16_7 hT
    have h8n : (encB { Bs'[i] with A := A2, cap := c2, nodes := u1.enc 0 }).length = 8 := by simp [hoki.row]
    rw [show List.take 2 (encB Bs'[i]) ++ [Value.slice A2 (u1.enc 0).length c2] ++ List.drop (2 + 1) (encB Bs'[i]) = encB { Bs'[i] with A := A2, cap := c2, nodes := u1.enc 0 } from sp_ty] at hu16_7 hT
    rw [cat_splice0 (vs := encB { Bs'[i] with A := A2, cap := c2, nodes := u1.enc 0 }) (m := 8) h8n] at hu16_7 hT
    have hst := hsts (.t v0 u1) (by simp [sub1, hu1])
    have hSl6 := hSl.ext hE16
    have hok8 := hSl6.ok _ (List.getElem_mem hi')
    have htb : ∀ x ∈ [b], x.ok := fun x hx => by rw [List.mem_singleton.1 hx]; exact hBe.tok
    have hgl0 := hG0.lt
    have hbl := hBe.ok.lt
    have hutm := tys_sub hu1
    have hset := hSl6.set hi' (bd := { Bs'[i] with A := A2, cap := c2, nodes := u1.enc 0 }) (b := .t v0 u1) (by simp [pl, Bt.pl, hvar, hrow, q31]) ⟨sub_ok htb htk.1 hutm.1, hutm.2⟩ ⟨own_sl (wide9 hN) (by decide) hG0, hN, hok8.row, by dsimp only; omega⟩ (hG0.gw.mono (by omega)) (.inr ⟨by dsimp only; omega, by dsimp only; omega⟩) (fun j hj hij => by have := (hSl.ok _ (List.getElem_mem hj)).lt; dsimp only; omega) hc (by rw [h8n]; decide) (splice_all (by rw [h8n]; exact hoki.len)) hcl hu16_7 hT
    exact At.via (ih (i + 1, Bs'.set i { Bs'[i] with A := A2, cap := c2, nodes := u1.enc 0 }, Ts'.set i (.t v0 u1)) _ ⟨by omega, by rw [List.length_set]; exact hll, hset, hst, by rw [List.length_set]; exact hs, o0_0, o1_1, (hBe.ext hE16).set hu16_7 (by dsimp only; omega), (hM.ext hE16).set hu16_7⟩ (by simp only; omega)) ⟨rfl, rfl, rfl, rfl, trivial⟩
  first | (simp only [decide_eq_true_eq, decide_eq_false_iff_not, Bool.not_eq_true', Bool.not_eq_false', ne_eq, Decidable.not_not, Bool.not_eq_true, Bool.not_eq_false] at q20) | (dsimp only at q20) | skip
  refine At.drawE ((Bks.cons hs.blk (Bks.cons o0_0.blk Bks.nil))) [10] mixed rfl rfl ?_
  refine RegD.tpur (i := 0) rfl rfl rfl rfl (by kernel_rfl) (Pur.mv rfl) ?_
  refine RegD.tpur (i := 1) rfl rfl rfl rfl (by kernel_rfl) (Pur.mv rfl) ?_
  refine RegD.tpur (i := 2) rfl rfl rfl rfl (by kernel_rfl) (Pur.nilc rfl) ?_
  refine RegD.tpur (i := 3) rfl rfl rfl rfl (by kernel_rfl) (Pur.fld _ fo127_0 rfl) ?_
  refine RegD.take (i := 4) rfl rfl rfl rfl (by kernel_rfl) (Bks.cons hs.blk (Bks.cons o0_0.blk Bks.nil)) (fun H hS => Lod.ld sc22 rfl hS.hd rfl) ?_
  refine RegD.take (i := 5) rfl rfl rfl rfl (by kernel_rfl) (Bks.cons hs.blk (Bks.cons o0_0.blk Bks.nil)) (fun H hS => Lod.ldn ag49 rfl hS.tl.hd (whole h8) h8) ?_
  refine RegD.one (i := 6) (by kernel_rfl) rfl rfl rfl rfl (Does.bslA ([encB bd]) slA22 rfl rfl rfl (by simp [h8]) rfl rfl) ?_
  rintro _ H17_6 ⟨rfl, hp17_6⟩
  have hn17_6 := New.of_eq hp17_6
  have z17_6 := hn17_6.size
  replace hE := hE.ext hn17_6.ext
  replace hs := hs.ext hn17_6.ext
  replace o0_0 := o0_0.ext hn17_6.ext
  replace o1_1 := o1_1.ext hn17_6.ext
  have o17_6 := hn17_6.own
  refine ⟨fun _ _ => (Bks.cons hs.blk (Bks.cons o0_0.blk Bks.nil)), ?_⟩
  have hg := (hSl.ext hE).g
  have z_hg := hg.lt
  have hE17 := hE

  refine RegD.one (i := 7) (by kernel_rfl) rfl rfl rfl rfl (Does.appL apt22 rfl rfl (by decide) hg (fun x hx ↦ by rw [List.mem_singleton.1 hx]; exact h8) (sl_one (x := bd) h8 (by decide) hn17_6) (ones_fl bd) (by simp; omega) (by omega)) ?_
  rintro _ H17_7 ⟨A17_7, cap17_7, rfl, g17_7, hbut17_7, ha17_7⟩
  have z17_7 := hbut17_7.lt
  replace hs := hs.via hbut17_7 (by first | omega | (intro g; omega) | (intro g hg; omega) | (intro g hg h; omega))
  replace o0_0 := o0_0.via hbut17_7 (by first | omega | (intro g; omega) | (intro g hg; omega) | (intro g hg h; omega))
  replace o17_6 := o17_6.via hbut17_7 (by first | omega | (intro g; omega) | (intro g hg; omega) | (intro g hg h; omega))
  replace hg := g17_7
  have zg17_7 := g17_7.lt
  refine ⟨fun _ _ => (Bks.cons hs.blk (Bks.cons o0_0.blk Bks.nil)), ?_⟩
  refine RegD.tpur (i := 8) rfl rfl rfl rfl (by kernel_rfl) (Pur.nilc rfl) ?_
  refine RegD.tpur (i := 9) rfl rfl rfl rfl (by kernel_rfl) (Pur.fld _ fo127_0 rfl) ?_
  refine RegD.one0 (i := 10) (by kernel_rfl) rfl rfl rfl (Does.st sc22 rfl rfl rfl hs (by first | decide | (simp; done) | (simp; omega) | omega)) ?_
  rintro _ H17_10 hu17_10
  have z17_10 := hu17_10.size
  replace o0_0 := o0_0.upw hu17_10 (by omega)
  replace o17_6 := o17_6.upw hu17_10 (by omega)
  replace hg := hg.upw hu17_10 (by omega)
  replace hs := hu17_10.own
  refine ⟨fun h => (by cases h), ?_⟩
  refine RegD.done (by kernel_rfl) ?_
  refine At.fall rfl Try.func134 rfl ?_
  have hend : addB b Ts = some (Ts' ++ [b]) := by { have hle := hSl.lenT; rw [hadd, List.drop_eq_nil_of_le (by omega), List.take_of_length_le (by omega)]; rfl }
  rw [hend]
  have hbs : But (fun x => x = sb ∨ (x : Int) = ob A) H17_6 H17_10 := (hbut17_7.mono (fun b hb e => Or.inr e)).trans (hu17_10.but.mono (fun b hb e => Or.inl e))
  have hsl := (hSl.ext hE17).app (hBe.ext hE17) hg hbs (by omega) (by omega) (by omega)
  exact ⟨_, _, _, hsl, hs, (hM.ext hE17).trans ⟨hbs, by omega⟩⟩
end Go.Proofs.Ytlfillhffpiffaa
