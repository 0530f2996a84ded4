/-
  Chapter 10: types that are none, what stands in itself, what is unlike.
-/
import Derived.Test.YtlfillhffpiffaaS1
namespace Go.Proofs.Ytlfillhffpiffaa
set_option linter.unusedSimpArgs false
set_option linter.unusedVariables false
set_option maxRecDepth 8000
set_option maxHeartbeats 1000000
open Go Go.Fx Go.Proofs
namespace FactsUniAF
theorem ag25 : ag Try.prog 25 = some 1 := by kernel_rfl
theorem ag28 : ag Try.prog 28 = some 5 := by kernel_rfl
theorem arr26 : arr Try.prog 26 = some (4, 1) := by kernel_rfl
theorem es54 : esz Try.prog 54 = some 1 := by kernel_rfl
theorem es57 : esz Try.prog 57 = some 1 := by kernel_rfl
theorem fo28_0 : foff Try.prog 28 0 = some 0 := by kernel_rfl
theorem isl22 : isSl Try.prog 22 = true := by kernel_rfl
theorem mixed : Try.prog.follows .mixedOrders = true := by kernel_rfl
theorem pl25 : places Try.prog 25 = some [(0, 1)] := by kernel_rfl
theorem pl28 : places Try.prog 28 = some [(0, 4), (4, 1)] := by kernel_rfl
theorem pl47 : places Try.prog 47 = some [(0, 1), (1, 1), (2, 1), (3, 1), (4, 5)] := by kernel_rfl
theorem sc3 : sc Try.prog 3 = true := by kernel_rfl
theorem sl1_54 : sl1 Try.prog 54 = true := by kernel_rfl
theorem slA23 : slA Try.prog 23 = some (47, 9) := by kernel_rfl
theorem slA57 : slA Try.prog 57 = some (25, 1) := by kernel_rfl
theorem zc25 : zc Try.prog 25 = some [.slice none 0 0] := by kernel_rfl
theorem zc28 : zc Try.prog 28 = some [.int .i64 0, .int .i64 0, .int .i64 0, .int .i64 0, .int .i64 0] := by kernel_rfl
theorem zc47 : zc Try.prog 47 = some [.int .i64 0, .int .i64 0, .int .i64 0, .int .i64 0, .int .i64 0, .int .i64 0, .int .i64 0, .int .i64 0, .int .i64 0] := by kernel_rfl
end FactsUniAF
open FactsUniAF

abbrev nmT : Tm := .bas false
abbrev trT : Tm := .bas true
abbrev v0T : Tm := .var 0
abbrev v1T : Tm := .var 1
abbrev tail0 : List Int := [0, 0, 0, 0, 0]
def fmA (s : List Int) : List Tm := [nmT, nmT, .fn nmT pureR nmT, .fn nmT pureR nmT, .fn nmT s nmT, .fn v0T pureR v0T, v0T, .fn v0T pureR v1T, .fn v0T tail0 (.fn nmT tail0 nmT)]
def fmB (s : List Int) : List Tm := [trT, .fn nmT pureR nmT, .fn trT pureR nmT, .fn nmT pureR trT, .fn nmT pureR nmT, .fn nmT pureR trT, .fn v0T pureR nmT, .fn v1T pureR (.fn v0T pureR nmT), .fn nmT pureR (.fn nmT s nmT)]
abbrev fmW : List Int := [1001, 1001, 1001, 1001, 1001, 1001, 1002, 1002, 1001]
def Tm.okB : Tm → Bool
  | .bas _ => true
  | .var v => decide (0 ≤ v ∧ v < 4096)
  | .fn a r b => a.okB && decide (r.length = 5) && rowM r && b.okB
theorem okB_ok : ∀ {t : Tm}, t.okB = true → t.ok
  | .bas _, _ => trivial
  | .var v, h => of_decide_eq_true (p := 0 ≤ v ∧ v < 4096) h
  | .fn a r b, h => by
    simp only [Tm.okB, Bool.and_eq_true, decide_eq_true_eq] at h
    exact ⟨okB_ok h.1.1.1, h.1.1.2, h.1.2, okB_ok h.2⟩
def isErr (c : Int) : Option (Except Int Us) → Bool
  | some (.error d) => decide (d = c)
  | _ => false
theorem isErr_of {c : Int} {x : Option (Except Int Us)} (h : isErr c x = true) : x = some (.error c) := by
  match x, h with
  | some (.error d), h => have : d = c := of_decide_eq_true h; rw [this]
def fmC (t u : Tm) (c : Int) : Bool := t.okB && u.okB && decide (t.sz ≤ 256) && decide (u.sz ≤ 256) && !(t.enc 0).any (pLow 5) && !(u.enc 0).any (pLow 5) && isErr c (uniU 6 ([], 5) t u)
theorem fmC_unf {t u : Tm} {c : Int} (h : fmC t u c = true) : Unf (t.enc 0) (u.enc 0) 5 (.error c) ∧ t.ok ∧ u.ok ∧ t.sz ≤ 256 ∧ u.sz ≤ 256 := by
  unfold fmC at h
  simp only [Bool.and_eq_true, decide_eq_true_eq, Bool.not_eq_true'] at h
  obtain ⟨⟨⟨⟨⟨⟨h1, h2⟩, h3⟩, h4⟩, h5⟩, h6⟩, h7⟩ := h
  have k1 := okB_ok h1
  have k2 := okB_ok h2
  exact ⟨.yes (by decide) (by decide) k1 h3 rfl k2 h4 rfl ((any_low 5 t 0 k1).1 h5) ((any_low 5 u 0 k2).1 h6) (isErr_of h7), k1, k2, h3, h4⟩
theorem fm_chk : ∀ i : Fin 4, ∀ j : Fin 8, ∀ k : Fin 9, (fmC ((fmA (pureR.set i (1 + (j : Nat)))).getD k nmT) ((fmB (pureR.set i (1 + (j : Nat)))).getD k nmT) (fmW.getD k 0) && fmC ((fmB (pureR.set i (1 + (j : Nat)))).getD k nmT) ((fmA (pureR.set i (1 + (j : Nat)))).getD k nmT) (fmW.getD k 0)) = true := by decide +kernel
/-- a row with something -/
def someR (d : Int) : List Int := pureR.set (bits .and .i64 d 3).toNat (1 + bits .and .i64 d 7)
theorem some_rng (d : Int) : 0 ≤ bits .and .i64 d 3 ∧ bits .and .i64 d 3 ≤ 3 ∧ 0 ≤ bits .and .i64 d 7 ∧ bits .and .i64 d 7 ≤ 7 := by
  have h := and_le d 3 (by decide)
  have h' := and_le d 7 (by decide)
  exact ⟨h.1, h.2, h'.1, h'.2⟩
theorem fm_unf (d : Int) {k : Nat} (hk : k < 9) : fmC ((fmA (someR d)).getD k nmT) ((fmB (someR d)).getD k nmT) (fmW.getD k 0) = true ∧ fmC ((fmB (someR d)).getD k nmT) ((fmA (someR d)).getD k nmT) (fmW.getD k 0) = true := by
  obtain ⟨h1, h2, h3, h4⟩ := some_rng d
  obtain ⟨i, hi⟩ := Int.eq_ofNat_of_zero_le h1
  obtain ⟨j, hj⟩ := Int.eq_ofNat_of_zero_le h3
  have hi4 : i < 4 := by omega
  have hj8 : j < 8 := by omega
  have := fm_chk ⟨i, hi4⟩ ⟨j, hj8⟩ ⟨k, hk⟩
  have e : someR d = pureR.set i (1 + (j : Nat)) := by unfold someR; rw [hi, hj]; rfl
  rw [e]
  simpa using this
theorem some_len (d : Int) : (someR d).length = 5 := by unfold someR; simp
/-- a type among others -/
def TyAt (H : Heap) (c : List Value) (k : Nat) (t : Tm) : Prop := ∃ A n, c[k]? = some (.slice A (t.enc 0).length n) ∧ SlT H Is 9 (.slice A (t.enc 0).length n) (t.enc 0)
structure TyA (H : Heap) (c : List Value) (L : List Tm) : Prop where
  at_ : ∀ k, k < 9 → TyAt H c k (L.getD k nmT)
theorem TyA.ext {H H' : Heap} {c : List Value} {L : List Tm} (h : TyA H c L) (he : Ext H H') : TyA H' c L :=
  ⟨fun k hk => by obtain ⟨A, n, h1, h2⟩ := h.at_ k hk; exact ⟨A, n, h1, h2.ext he⟩⟩
theorem tyA9 {H : Heap} {A0 A1 A2 A3 A4 A5 A6 A7 A8 : Option Addr} {n0 n1 n2 n3 n4 n5 n6 n7 n8 : Nat} {t0 t1 t2 t3 t4 t5 t6 t7 t8 : Tm} (h0 : SlT H Is 9 (.slice A0 (t0.enc 0).length n0) (t0.enc 0)) (h1 : SlT H Is 9 (.slice A1 (t1.enc 0).length n1) (t1.enc 0)) (h2 : SlT H Is 9 (.slice A2 (t2.enc 0).length n2) (t2.enc 0)) (h3 : SlT H Is 9 (.slice A3 (t3.enc 0).length n3) (t3.enc 0)) (h4 : SlT H Is 9 (.slice A4 (t4.enc 0).length n4) (t4.enc 0)) (h5 : SlT H Is 9 (.slice A5 (t5.enc 0).length n5) (t5.enc 0)) (h6 : SlT H Is 9 (.slice A6 (t6.enc 0).length n6) (t6.enc 0)) (h7 : SlT H Is 9 (.slice A7 (t7.enc 0).length n7) (t7.enc 0)) (h8 : SlT H Is 9 (.slice A8 (t8.enc 0).length n8) (t8.enc 0)) : TyA H [.slice A0 (t0.enc 0).length n0, .slice A1 (t1.enc 0).length n1, .slice A2 (t2.enc 0).length n2, .slice A3 (t3.enc 0).length n3, .slice A4 (t4.enc 0).length n4, .slice A5 (t5.enc 0).length n5, .slice A6 (t6.enc 0).length n6, .slice A7 (t7.enc 0).length n7, .slice A8 (t8.enc 0).length n8] [t0, t1, t2, t3, t4, t5, t6, t7, t8] :=
  ⟨fun k hk => by
    match k, hk with
    | 0, _ => exact ⟨A0, n0, rfl, h0⟩
    | 1, _ => exact ⟨A1, n1, rfl, h1⟩
    | 2, _ => exact ⟨A2, n2, rfl, h2⟩
    | 3, _ => exact ⟨A3, n3, rfl, h3⟩
    | 4, _ => exact ⟨A4, n4, rfl, h4⟩
    | 5, _ => exact ⟨A5, n5, rfl, h5⟩
    | 6, _ => exact ⟨A6, n6, rfl, h6⟩
    | 7, _ => exact ⟨A7, n7, rfl, h7⟩
    | 8, _ => exact ⟨A8, n8, rfl, h8⟩⟩
theorem tyA_mk {H : Heap} {b : Nat} {c : List Value} {L : List Tm} (h : Own H b c) (ht : TyA H c L) : ∃ c, Own H b c ∧ TyA H c L := ⟨c, h, ht⟩
theorem one_at {c : List Value} {k : Nat} {x : Value} (h : c[k]? = some x) : (c.drop (0 + (k : Int).toNat * 1)).take 1 = [x] := by
  rw [Int.toNat_natCast, Nat.zero_add, Nat.mul_one]
  obtain ⟨hk, rfl⟩ := List.getElem?_eq_some_iff.1 h
  rw [List.drop_eq_getElem_cons hk]; rfl
theorem TyA.lt {H : Heap} {c : List Value} {L : List Tm} (h : TyA H c L) : True := trivial
theorem vOk0 : v0T.ok := ⟨by decide, by decide⟩
theorem vOk1 : v1T.ok := ⟨by decide, by decide⟩
theorem fOk0 : (Tm.fn nmT tail0 nmT).ok := okB_ok rfl
theorem fOk1 : (Tm.fn v0T pureR nmT).ok := okB_ok rfl
theorem unifyForms_law (w x : Int) (H : Heap) :
    Ret Try.prog 13 [I w, I x] H (fun v H' => v = .bool true ∧ Ext H H') := by
  have hd := and_le x 1023 (by decide)
  change 0 ≤ bits .and .i64 x (1023 : Int) ∧ bits .and .i64 x (1023 : Int) ≤ (1023 : Int) at hd
  generalize hdd : (1 : Int) + bits .and .i64 x 1023 = d
  have hd1 : 1 ≤ d ∧ d ≤ 1024 := by omega
  obtain ⟨r1, r2, r3, r4⟩ := some_rng d
  have hs5 := some_len d
  have fOk2 : (Tm.fn nmT (someR d) nmT).ok := by
    have h1 := (fmC_unf (fm_unf d (k := 4) (by decide)).1).2.1
    exact h1
  refine Ret.of_at (N := 205) Try.call13 Try.func13 rfl rfl rfl ?_
  have hE := Ext.refl H
  refine At.region rfl rfl ?_
  refine Reg.pur rfl rfl rfl rfl (Pur.asg rfl) ?_
  refine Reg.nil ?_
  refine At.region rfl rfl ?_
  refine Reg.op rfl rfl rfl rfl (Does.call rfl (awake10_ok _)) ?_
  rintro _ H1_0 ⟨rfl, hE1_0⟩
  have z1_0 := hE1_0.lt
  replace hE := hE.ext hE1_0
  refine Reg.pur rfl rfl rfl rfl (Pur.not rfl) ?_
  refine Reg.nil ?_
  refine At.condF rfl rfl rfl ?_
  refine At.region rfl rfl ?_
  refine Reg.pur rfl rfl rfl rfl (Pur.mv rfl) ?_
  refine Reg.pur rfl rfl rfl rfl (Pur.and rfl rfl) ?_
  first | refine Reg.pur rfl rfl rfl rfl (Pur.add64 rfl rfl (by omega)) ?_ | refine Reg.pur rfl rfl rfl rfl (Pur.add64 rfl rfl (by assumption)) ?_ | refine Reg.pur rfl rfl rfl rfl (Pur.add rfl rfl) ?_
  refine Reg.pur rfl rfl rfl rfl (Pur.asg rfl) ?_
  refine Reg.nil ?_
  rw [hdd]
  refine At.region rfl rfl ?_
  refine Reg.pur rfl rfl rfl rfl (Pur.bld (cs := [_, _, _, _, _, _, _, _, _]) pl47 zc47 rfl rfl ⟨rfl, rfl, rfl, rfl, rfl, rfl, rfl, rfl, rfl, rfl⟩) ?_
  refine Reg.op rfl rfl rfl rfl (Does.bslA ([Is (bNode false)]) slA23 rfl rfl rfl rfl rfl rfl) ?_
  rintro _ H4_1 ⟨rfl, hp4_1⟩
  have hn4_1 := New.of_eq hp4_1
  have z4_1 := hn4_1.size
  replace hE := hE.ext hn4_1.ext
  have o4_1 := hn4_1.own
  refine Reg.pur rfl rfl rfl rfl (Pur.bld (cs := [_]) pl25 zc25 rfl rfl ⟨rfl, rfl⟩) ?_
  refine Reg.op rfl rfl rfl rfl (Does.alloc zc25) ?_
  rintro _ H4_3 ⟨rfl, hn4_3⟩
  have z4_3 := hn4_3.size
  replace hE := hE.ext hn4_3.ext
  replace o4_1 := o4_1.ext hn4_3.ext
  have o4_3 := hn4_3.own
  refine Reg.op0 rfl rfl rfl (Does.stn ag25 rfl rfl (by first | rfl | exact ones_Is _) (by first | rfl | (simp [*]; done)) o4_3 (by first | decide | (simp; done) | (simp; omega) | omega)) ?_
  rintro _ H4_4 hu4_4
  have z4_4 := hu4_4.size
  replace hE := hE.upw hu4_4 (by omega)
  replace o4_1 := o4_1.upw hu4_4 (by omega)
  replace o4_3 := hu4_4.own
  first | rw [over (by first | rfl | (simp; done))] at o4_3 | skip
  refine Reg.nil ?_
  refine At.region rfl rfl ?_
  refine Reg.pur rfl rfl rfl rfl (Pur.bld (cs := [_, _, _, _, _, _, _, _, _]) pl47 zc47 rfl rfl ⟨rfl, rfl, rfl, rfl, rfl, rfl, rfl, rfl, rfl, rfl⟩) ?_
  refine Reg.op rfl rfl rfl rfl (Does.bslA ([Is (bNode true)]) slA23 rfl rfl rfl rfl rfl rfl) ?_
  rintro _ H5_1 ⟨rfl, hp5_1⟩
  have hn5_1 := New.of_eq hp5_1
  have z5_1 := hn5_1.size
  replace hE := hE.ext hn5_1.ext
  replace o4_1 := o4_1.ext hn5_1.ext
  replace o4_3 := o4_3.ext hn5_1.ext
  have o5_1 := hn5_1.own
  refine Reg.pur rfl rfl rfl rfl (Pur.bld (cs := [_]) pl25 zc25 rfl rfl ⟨rfl, rfl⟩) ?_
  refine Reg.op rfl rfl rfl rfl (Does.alloc zc25) ?_
  rintro _ H5_3 ⟨rfl, hn5_3⟩
  have z5_3 := hn5_3.size
  replace hE := hE.ext hn5_3.ext
  replace o4_1 := o4_1.ext hn5_3.ext
  replace o4_3 := o4_3.ext hn5_3.ext
  replace o5_1 := o5_1.ext hn5_3.ext
  have o5_3 := hn5_3.own
  refine Reg.op0 rfl rfl rfl (Does.stn ag25 rfl rfl (by first | rfl | exact ones_Is _) (by first | rfl | (simp [*]; done)) o5_3 (by first | decide | (simp; done) | (simp; omega) | omega)) ?_
  rintro _ H5_4 hu5_4
  have z5_4 := hu5_4.size
  replace hE := hE.upw hu5_4 (by omega)
  replace o4_1 := o4_1.upw hu5_4 (by omega)
  replace o4_3 := o4_3.upw hu5_4 (by omega)
  replace o5_1 := o5_1.upw hu5_4 (by omega)
  replace o5_3 := hu5_4.own
  first | rw [over (by first | rfl | (simp; done))] at o5_3 | skip
  refine Reg.nil ?_
  refine At.region rfl rfl ?_
  refine Reg.pur rfl rfl rfl rfl (Pur.bld (cs := [_, _, _, _, _]) pl28 zc28 rfl rfl ⟨rfl, rfl, rfl, rfl, rfl, rfl⟩) ?_
  refine Reg.op rfl rfl rfl rfl (Does.alloc zc28) ?_
  rintro _ H6_1 ⟨rfl, hn6_1⟩
  have z6_1 := hn6_1.size
  replace hE := hE.ext hn6_1.ext
  replace o4_1 := o4_1.ext hn6_1.ext
  replace o4_3 := o4_3.ext hn6_1.ext
  replace o5_1 := o5_1.ext hn6_1.ext
  replace o5_3 := o5_3.ext hn6_1.ext
  have o6_1 := hn6_1.own
  refine Reg.op0 rfl rfl rfl (Does.stn ag28 rfl rfl (by first | rfl | exact ones_Is _) (by first | rfl | (simp [*]; done)) o6_1 (by first | decide | (simp; done) | (simp; omega) | omega)) ?_
  rintro _ H6_2 hu6_2
  have z6_2 := hu6_2.size
  replace hE := hE.upw hu6_2 (by omega)
  replace o4_1 := o4_1.upw hu6_2 (by omega)
  replace o4_3 := o4_3.upw hu6_2 (by omega)
  replace o5_1 := o5_1.upw hu6_2 (by omega)
  replace o5_3 := o5_3.upw hu6_2 (by omega)
  replace o6_1 := hu6_2.own
  first | rw [over (by first | rfl | (simp; done))] at o6_1 | skip
  refine Reg.nil ?_
  refine At.region rfl rfl ?_
  refine Reg.lod rfl rfl rfl rfl (Lod.ldn ag28 rfl o6_1.blk rfl rfl) ?_
  refine Reg.op rfl rfl rfl rfl (Does.alloc zc28) ?_
  rintro _ H7_1 ⟨rfl, hn7_1⟩
  have z7_1 := hn7_1.size
  replace hE := hE.ext hn7_1.ext
  replace o4_1 := o4_1.ext hn7_1.ext
  replace o4_3 := o4_3.ext hn7_1.ext
  replace o5_1 := o5_1.ext hn7_1.ext
  replace o5_3 := o5_3.ext hn7_1.ext
  replace o6_1 := o6_1.ext hn7_1.ext
  have o7_1 := hn7_1.own
  refine Reg.op0 rfl rfl rfl (Does.stn ag28 rfl rfl (by first | rfl | exact ones_Is _) (by first | rfl | (simp [*]; done)) o7_1 (by first | decide | (simp; done) | (simp; omega) | omega)) ?_
  rintro _ H7_2 hu7_2
  have z7_2 := hu7_2.size
  replace hE := hE.upw hu7_2 (by omega)
  replace o4_1 := o4_1.upw hu7_2 (by omega)
  replace o4_3 := o4_3.upw hu7_2 (by omega)
  replace o5_1 := o5_1.upw hu7_2 (by omega)
  replace o5_3 := o5_3.upw hu7_2 (by omega)
  replace o6_1 := o6_1.upw hu7_2 (by omega)
  replace o7_1 := hu7_2.own
  first | rw [over (by first | rfl | (simp; done))] at o7_1 | skip
  refine Reg.nil ?_
  refine At.region rfl rfl ?_
  refine Reg.pur rfl rfl rfl rfl (Pur.mv rfl) ?_
  refine Reg.pur rfl rfl rfl rfl (Pur.and rfl rfl) ?_
  refine Reg.pur rfl rfl rfl rfl (Pur.mv rfl) ?_
  refine Reg.pur rfl rfl rfl rfl (Pur.and rfl rfl) ?_
  first | refine Reg.pur rfl rfl rfl rfl (Pur.add64 rfl rfl (by omega)) ?_ | refine Reg.pur rfl rfl rfl rfl (Pur.add64 rfl rfl (by assumption)) ?_ | refine Reg.pur rfl rfl rfl rfl (Pur.add rfl rfl) ?_
  refine Reg.pur rfl rfl rfl rfl (Pur.fld _ fo28_0 rfl) ?_
  refine Reg.pur rfl rfl rfl rfl (Pur.idxP arr26 rfl rfl (by omega) (by omega)) ?_
  refine Reg.op0 rfl rfl rfl (Does.st sc3 rfl rfl rfl o7_1 (by simp; omega)) ?_
  rintro _ H8_7 hu8_7
  have z8_7 := hu8_7.size
  replace hE := hE.upw hu8_7 (by omega)
  replace o4_1 := o4_1.upw hu8_7 (by omega)
  replace o4_3 := o4_3.upw hu8_7 (by omega)
  replace o5_1 := o5_1.upw hu8_7 (by omega)
  replace o5_3 := o5_3.upw hu8_7 (by omega)
  replace o6_1 := o6_1.upw hu8_7 (by omega)
  replace o7_1 := hu8_7.own
  replace o7_1 := o7_1.of (c' := Is (someR d)) (by rw [show 0 + 0 + (bits BinOp.and IntKind.i64 d 3).toNat * 1 = (bits BinOp.and IntKind.i64 d 3).toNat by omega]; unfold someR; simp [Is, List.map_set])
  have hSn : SlT H8_7 Is 9 (.slice (some ⟨H1_0.size, 0, none⟩) (nmT.enc 0).length 1) (nmT.enc 0) := sl_own (L := [bNode false]) (wide9 (nine_lit rfl)) (by decide) o4_1 (by decide)
  have hSt : SlT H8_7 Is 9 (.slice (some ⟨H4_4.size, 0, none⟩) (trT.enc 0).length 1) (trT.enc 0) := sl_own (L := [bNode true]) (wide9 (nine_lit rfl)) (by decide) o5_1 (by decide)
  have z_hSn := hSn.lt
  have z_hSt := hSt.lt
  refine Reg.nil ?_
  refine At.region rfl rfl ?_
  refine Reg.lod rfl rfl rfl rfl (Lod.ldn ag25 rfl o4_3.blk rfl rfl) ?_
  refine Reg.pur rfl rfl rfl rfl (Pur.bld (cs := [_]) pl25 zc25 rfl rfl ⟨rfl, rfl⟩) ?_
  refine Reg.op rfl rfl rfl rfl (Does.call rfl (unify_ok (L := nmT.enc 0) (M := []) (nine_lit rfl) (nine_lit rfl) hSn (sl_nil _) (by decide) (by decide) (.no rfl))) ?_
  rintro v9_2 H9_2 ⟨rfl, hE9_2⟩
  have z9_2 := hE9_2.lt
  replace hE := hE.ext hE9_2
  replace o4_1 := o4_1.ext hE9_2
  replace o4_3 := o4_3.ext hE9_2
  replace o5_1 := o5_1.ext hE9_2
  replace o5_3 := o5_3.ext hE9_2
  replace o6_1 := o6_1.ext hE9_2
  replace o7_1 := o7_1.ext hE9_2
  replace hSn := hSn.ext hE9_2
  replace hSt := hSt.ext hE9_2
  refine Reg.pur rfl rfl rfl rfl (Pur.mv rfl) ?_
  refine Reg.pur rfl rfl rfl rfl (Pur.ext rfl rfl) ?_
  refine Reg.pur rfl rfl rfl rfl (Pur.ext rfl rfl) ?_
  refine Reg.pur rfl rfl rfl rfl (Pur.asg rfl) ?_
  refine Reg.pur rfl rfl rfl rfl (Pur.asg rfl) ?_
  refine Reg.nil ?_
  refine At.region rfl rfl ?_
  refine Reg.lod rfl rfl rfl rfl (Lod.ldn ag25 rfl o4_3.blk rfl rfl) ?_
  refine Reg.lod rfl rfl rfl rfl (Lod.ldn ag25 rfl o4_3.blk rfl rfl) ?_
  refine Reg.pur rfl rfl rfl rfl (Pur.mv rfl) ?_
  first | refine Reg.pur rfl rfl rfl rfl (Pur.neg64 rfl (by omega)) ?_ | refine Reg.pur rfl rfl rfl rfl (Pur.neg rfl) ?_
  refine Reg.op rfl rfl rfl rfl (Does.call rfl (unify_ok (L := nmT.enc 0) (M := nmT.enc 0) (nine_lit rfl) (nine_lit rfl) hSn hSn (by decide) (by decide) (.no (by unfold unfOk; rw [decide_eq_false (show ¬ (0 ≤ -d ∧ -d < 4096) by omega)]; rfl)))) ?_
  rintro v10_4 H10_4 ⟨rfl, hE10_4⟩
  have z10_4 := hE10_4.lt
  replace hE := hE.ext hE10_4
  replace o4_1 := o4_1.ext hE10_4
  replace o4_3 := o4_3.ext hE10_4
  replace o5_1 := o5_1.ext hE10_4
  replace o5_3 := o5_3.ext hE10_4
  replace o6_1 := o6_1.ext hE10_4
  replace o7_1 := o7_1.ext hE10_4
  replace hSn := hSn.ext hE10_4
  replace hSt := hSt.ext hE10_4
  refine Reg.pur rfl rfl rfl rfl (Pur.mv rfl) ?_
  refine Reg.pur rfl rfl rfl rfl (Pur.ext rfl rfl) ?_
  refine Reg.pur rfl rfl rfl rfl (Pur.ext rfl rfl) ?_
  refine Reg.pur rfl rfl rfl rfl (Pur.asg rfl) ?_
  refine Reg.pur rfl rfl rfl rfl (Pur.asg rfl) ?_
  refine Reg.nil ?_
  refine At.region rfl rfl ?_
  refine Reg.lod rfl rfl rfl rfl (Lod.ldn ag25 rfl o4_3.blk rfl rfl) ?_
  refine Reg.lod rfl rfl rfl rfl (Lod.ldn ag25 rfl o4_3.blk rfl rfl) ?_
  refine Reg.pur rfl rfl rfl rfl (Pur.mv rfl) ?_
  first | refine Reg.pur rfl rfl rfl rfl (Pur.add64 rfl rfl (by omega)) ?_ | refine Reg.pur rfl rfl rfl rfl (Pur.add64 rfl rfl (by assumption)) ?_ | refine Reg.pur rfl rfl rfl rfl (Pur.add rfl rfl) ?_
  refine Reg.op rfl rfl rfl rfl (Does.call rfl (unify_ok (L := nmT.enc 0) (M := nmT.enc 0) (nine_lit rfl) (nine_lit rfl) hSn hSn (by decide) (by decide) (.no (by unfold unfOk; rw [decide_eq_false (show ¬ (0 ≤ 4095 + d ∧ 4095 + d < 4096) by omega)]; rfl)))) ?_
  rintro v11_4 H11_4 ⟨rfl, hE11_4⟩
  have z11_4 := hE11_4.lt
  replace hE := hE.ext hE11_4
  replace o4_1 := o4_1.ext hE11_4
  replace o4_3 := o4_3.ext hE11_4
  replace o5_1 := o5_1.ext hE11_4
  replace o5_3 := o5_3.ext hE11_4
  replace o6_1 := o6_1.ext hE11_4
  replace o7_1 := o7_1.ext hE11_4
  replace hSn := hSn.ext hE11_4
  replace hSt := hSt.ext hE11_4
  refine Reg.pur rfl rfl rfl rfl (Pur.mv rfl) ?_
  refine Reg.pur rfl rfl rfl rfl (Pur.ext rfl rfl) ?_
  refine Reg.pur rfl rfl rfl rfl (Pur.ext rfl rfl) ?_
  refine Reg.pur rfl rfl rfl rfl (Pur.asg rfl) ?_
  refine Reg.pur rfl rfl rfl rfl (Pur.asg rfl) ?_
  refine Reg.nil ?_
  refine At.drawE ((Bks.cons o4_3.blk (Bks.cons o6_1.blk (Bks.cons o7_1.blk Bks.nil)))) [] mixed rfl rfl ?_
  refine RegD.take (i := 0) rfl rfl rfl rfl (by kernel_rfl) (Bks.cons o4_3.blk (Bks.cons o6_1.blk (Bks.cons o7_1.blk Bks.nil))) (fun H hS => Lod.ldn ag25 rfl hS.hd (whole rfl) rfl) ?_
  refine RegD.take (i := 1) rfl rfl rfl rfl (by kernel_rfl) (Bks.cons o4_3.blk (Bks.cons o6_1.blk (Bks.cons o7_1.blk Bks.nil))) (fun H hS => Lod.ldn ag25 rfl hS.hd (whole rfl) rfl) ?_
  refine RegD.take (i := 2) rfl rfl rfl rfl (by kernel_rfl) (Bks.cons o4_3.blk (Bks.cons o6_1.blk (Bks.cons o7_1.blk Bks.nil))) (fun H hS => Lod.ldn ag25 rfl hS.hd (whole rfl) rfl) ?_
  refine RegD.take (i := 3) rfl rfl rfl rfl (by kernel_rfl) (Bks.cons o4_3.blk (Bks.cons o6_1.blk (Bks.cons o7_1.blk Bks.nil))) (fun H hS => Lod.ldn ag28 rfl hS.tl.hd (whole rfl) rfl) ?_
  refine RegD.take (i := 4) rfl rfl rfl rfl (by kernel_rfl) (Bks.cons o4_3.blk (Bks.cons o6_1.blk (Bks.cons o7_1.blk Bks.nil))) (fun H hS => Lod.ldn ag25 rfl hS.hd (whole rfl) rfl) ?_
  refine RegD.take (i := 6) rfl rfl rfl rfl (by kernel_rfl) (Bks.cons o4_3.blk (Bks.cons o6_1.blk (Bks.cons o7_1.blk Bks.nil))) (fun H hS => Lod.ldn ag25 rfl hS.hd (whole rfl) rfl) ?_
  refine RegD.take (i := 7) rfl rfl rfl rfl (by kernel_rfl) (Bks.cons o4_3.blk (Bks.cons o6_1.blk (Bks.cons o7_1.blk Bks.nil))) (fun H hS => Lod.ldn ag28 rfl hS.tl.hd (whole rfl) rfl) ?_
  refine RegD.take (i := 8) rfl rfl rfl rfl (by kernel_rfl) (Bks.cons o4_3.blk (Bks.cons o6_1.blk (Bks.cons o7_1.blk Bks.nil))) (fun H hS => Lod.ldn ag25 rfl hS.hd (whole rfl) rfl) ?_
  refine RegD.take (i := 10) rfl rfl rfl rfl (by kernel_rfl) (Bks.cons o4_3.blk (Bks.cons o6_1.blk (Bks.cons o7_1.blk Bks.nil))) (fun H hS => Lod.ldn ag25 rfl hS.hd (whole rfl) rfl) ?_
  refine RegD.take (i := 11) rfl rfl rfl rfl (by kernel_rfl) (Bks.cons o4_3.blk (Bks.cons o6_1.blk (Bks.cons o7_1.blk Bks.nil))) (fun H hS => Lod.ldn ag28 rfl hS.tl.tl.hd (whole (by simp [hs5])) (by simp [hs5])) ?_
  refine RegD.take (i := 12) rfl rfl rfl rfl (by kernel_rfl) (Bks.cons o4_3.blk (Bks.cons o6_1.blk (Bks.cons o7_1.blk Bks.nil))) (fun H hS => Lod.ldn ag25 rfl hS.hd (whole rfl) rfl) ?_
  refine RegD.take (i := 15) rfl rfl rfl rfl (by kernel_rfl) (Bks.cons o4_3.blk (Bks.cons o6_1.blk (Bks.cons o7_1.blk Bks.nil))) (fun H hS => Lod.ldn ag28 rfl hS.tl.hd (whole rfl) rfl) ?_
  refine RegD.take (i := 20) rfl rfl rfl rfl (by kernel_rfl) (Bks.cons o4_3.blk (Bks.cons o6_1.blk (Bks.cons o7_1.blk Bks.nil))) (fun H hS => Lod.ldn ag28 rfl hS.tl.hd (whole rfl) rfl) ?_
  refine RegD.tpur (i := 24) rfl rfl rfl rfl (by kernel_rfl) (Pur.bld (cs := [_, _, _, _, _]) pl28 zc28 rfl rfl ⟨rfl, rfl, rfl, rfl, rfl, rfl⟩) ?_
  refine RegD.take (i := 25) rfl rfl rfl rfl (by kernel_rfl) (Bks.cons o4_3.blk (Bks.cons o6_1.blk (Bks.cons o7_1.blk Bks.nil))) (fun H hS => Lod.ldn ag25 rfl hS.hd (whole rfl) rfl) ?_
  refine RegD.tpur (i := 26) rfl rfl rfl rfl (by kernel_rfl) (Pur.bld (cs := [_, _, _, _, _]) pl28 zc28 rfl rfl ⟨rfl, rfl, rfl, rfl, rfl, rfl⟩) ?_
  refine RegD.take (i := 27) rfl rfl rfl rfl (by kernel_rfl) (Bks.cons o4_3.blk (Bks.cons o6_1.blk (Bks.cons o7_1.blk Bks.nil))) (fun H hS => Lod.ldn ag25 rfl hS.hd (whole rfl) rfl) ?_
  refine RegD.one (i := 5) (by kernel_rfl) rfl rfl rfl rfl (Does.call rfl (fun10_ok (a := nmT) (b := nmT) (r := pureR) trivial trivial rfl (by decide) (by decide) hSn hSn)) ?_
  rintro v12_5 H12_5 ⟨⟨B5, c5, rfl, hS5, hf5⟩, hE12_5⟩
  have z12_5 := hE12_5.lt
  replace hE := hE.ext hE12_5
  replace o4_1 := o4_1.ext hE12_5
  replace o4_3 := o4_3.ext hE12_5
  replace o5_1 := o5_1.ext hE12_5
  replace o5_3 := o5_3.ext hE12_5
  replace o6_1 := o6_1.ext hE12_5
  replace o7_1 := o7_1.ext hE12_5
  replace hSn := hSn.ext hE12_5
  replace hSt := hSt.ext hE12_5
  have z_hS5 := hS5.lt
  refine ⟨fun _ _ => (Bks.cons o4_3.blk (Bks.cons o6_1.blk (Bks.cons o7_1.blk Bks.nil))), ?_⟩
  refine RegD.one (i := 9) (by kernel_rfl) rfl rfl rfl rfl (Does.call rfl (fun10_ok (a := nmT) (b := nmT) (r := pureR) trivial trivial rfl (by decide) (by decide) hSn hSn)) ?_
  rintro v12_9 H12_9 ⟨⟨B9, c9, rfl, hS9, hf9⟩, hE12_9⟩
  have z12_9 := hE12_9.lt
  replace hE := hE.ext hE12_9
  replace o4_1 := o4_1.ext hE12_9
  replace o4_3 := o4_3.ext hE12_9
  replace o5_1 := o5_1.ext hE12_9
  replace o5_3 := o5_3.ext hE12_9
  replace o6_1 := o6_1.ext hE12_9
  replace o7_1 := o7_1.ext hE12_9
  replace hSn := hSn.ext hE12_9
  replace hSt := hSt.ext hE12_9
  replace hS5 := hS5.ext hE12_9
  have z_hS9 := hS9.lt
  refine ⟨fun _ _ => (Bks.cons o4_3.blk (Bks.cons o6_1.blk (Bks.cons o7_1.blk Bks.nil))), ?_⟩
  refine RegD.one (i := 13) (by kernel_rfl) rfl rfl rfl rfl (Does.call rfl (fun10_ok (a := nmT) (b := nmT) (r := someR d) trivial trivial hs5 (by decide) (by decide) hSn hSn)) ?_
  rintro v12_13 H12_13 ⟨⟨B13, c13, rfl, hS13, hf13⟩, hE12_13⟩
  have z12_13 := hE12_13.lt
  replace hE := hE.ext hE12_13
  replace o4_1 := o4_1.ext hE12_13
  replace o4_3 := o4_3.ext hE12_13
  replace o5_1 := o5_1.ext hE12_13
  replace o5_3 := o5_3.ext hE12_13
  replace o6_1 := o6_1.ext hE12_13
  replace o7_1 := o7_1.ext hE12_13
  replace hSn := hSn.ext hE12_13
  replace hSt := hSt.ext hE12_13
  replace hS5 := hS5.ext hE12_13
  replace hS9 := hS9.ext hE12_13
  have z_hS13 := hS13.lt
  refine ⟨fun _ _ => (Bks.cons o4_3.blk (Bks.cons o6_1.blk (Bks.cons o7_1.blk Bks.nil))), ?_⟩
  refine RegD.one (i := 14) (by kernel_rfl) rfl rfl rfl rfl (Does.call rfl (v10_ok 0 _)) ?_
  rintro v12_14 H12_14 ⟨⟨B14, c14, rfl, hS14, hf14⟩, hE12_14⟩
  have z12_14 := hE12_14.lt
  replace hE := hE.ext hE12_14
  replace o4_1 := o4_1.ext hE12_14
  replace o4_3 := o4_3.ext hE12_14
  replace o5_1 := o5_1.ext hE12_14
  replace o5_3 := o5_3.ext hE12_14
  replace o6_1 := o6_1.ext hE12_14
  replace o7_1 := o7_1.ext hE12_14
  replace hSn := hSn.ext hE12_14
  replace hSt := hSt.ext hE12_14
  replace hS5 := hS5.ext hE12_14
  replace hS9 := hS9.ext hE12_14
  replace hS13 := hS13.ext hE12_14
  have z_hS14 := hS14.lt
  refine ⟨fun _ _ => (Bks.cons o4_3.blk (Bks.cons o6_1.blk (Bks.cons o7_1.blk Bks.nil))), ?_⟩
  refine RegD.one (i := 16) (by kernel_rfl) rfl rfl rfl rfl (Does.call rfl (v10_ok 0 _)) ?_
  rintro v12_16 H12_16 ⟨⟨B16, c16, rfl, hS16, hf16⟩, hE12_16⟩
  have z12_16 := hE12_16.lt
  replace hE := hE.ext hE12_16
  replace o4_1 := o4_1.ext hE12_16
  replace o4_3 := o4_3.ext hE12_16
  replace o5_1 := o5_1.ext hE12_16
  replace o5_3 := o5_3.ext hE12_16
  replace o6_1 := o6_1.ext hE12_16
  replace o7_1 := o7_1.ext hE12_16
  replace hSn := hSn.ext hE12_16
  replace hSt := hSt.ext hE12_16
  replace hS5 := hS5.ext hE12_16
  replace hS9 := hS9.ext hE12_16
  replace hS13 := hS13.ext hE12_16
  replace hS14 := hS14.ext hE12_16
  have z_hS16 := hS16.lt
  refine ⟨fun _ _ => (Bks.cons o4_3.blk (Bks.cons o6_1.blk (Bks.cons o7_1.blk Bks.nil))), ?_⟩
  refine RegD.one (i := 17) (by kernel_rfl) rfl rfl rfl rfl (Does.call rfl (fun10_ok (a := v0T) (b := v0T) (r := pureR) vOk0 vOk0 rfl (by decide) (by decide) hS14 hS16)) ?_
  rintro v12_17 H12_17 ⟨⟨B17, c17, rfl, hS17, hf17⟩, hE12_17⟩
  have z12_17 := hE12_17.lt
  replace hE := hE.ext hE12_17
  replace o4_1 := o4_1.ext hE12_17
  replace o4_3 := o4_3.ext hE12_17
  replace o5_1 := o5_1.ext hE12_17
  replace o5_3 := o5_3.ext hE12_17
  replace o6_1 := o6_1.ext hE12_17
  replace o7_1 := o7_1.ext hE12_17
  replace hSn := hSn.ext hE12_17
  replace hSt := hSt.ext hE12_17
  replace hS5 := hS5.ext hE12_17
  replace hS9 := hS9.ext hE12_17
  replace hS13 := hS13.ext hE12_17
  replace hS14 := hS14.ext hE12_17
  replace hS16 := hS16.ext hE12_17
  have z_hS17 := hS17.lt
  refine ⟨fun _ _ => (Bks.cons o4_3.blk (Bks.cons o6_1.blk (Bks.cons o7_1.blk Bks.nil))), ?_⟩
  refine RegD.one (i := 18) (by kernel_rfl) rfl rfl rfl rfl (Does.call rfl (v10_ok 0 _)) ?_
  rintro v12_18 H12_18 ⟨⟨B18, c18, rfl, hS18, hf18⟩, hE12_18⟩
  have z12_18 := hE12_18.lt
  replace hE := hE.ext hE12_18
  replace o4_1 := o4_1.ext hE12_18
  replace o4_3 := o4_3.ext hE12_18
  replace o5_1 := o5_1.ext hE12_18
  replace o5_3 := o5_3.ext hE12_18
  replace o6_1 := o6_1.ext hE12_18
  replace o7_1 := o7_1.ext hE12_18
  replace hSn := hSn.ext hE12_18
  replace hSt := hSt.ext hE12_18
  replace hS5 := hS5.ext hE12_18
  replace hS9 := hS9.ext hE12_18
  replace hS13 := hS13.ext hE12_18
  replace hS14 := hS14.ext hE12_18
  replace hS16 := hS16.ext hE12_18
  replace hS17 := hS17.ext hE12_18
  have z_hS18 := hS18.lt
  refine ⟨fun _ _ => (Bks.cons o4_3.blk (Bks.cons o6_1.blk (Bks.cons o7_1.blk Bks.nil))), ?_⟩
  refine RegD.one (i := 19) (by kernel_rfl) rfl rfl rfl rfl (Does.call rfl (v10_ok 0 _)) ?_
  rintro v12_19 H12_19 ⟨⟨B19, c19, rfl, hS19, hf19⟩, hE12_19⟩
  have z12_19 := hE12_19.lt
  replace hE := hE.ext hE12_19
  replace o4_1 := o4_1.ext hE12_19
  replace o4_3 := o4_3.ext hE12_19
  replace o5_1 := o5_1.ext hE12_19
  replace o5_3 := o5_3.ext hE12_19
  replace o6_1 := o6_1.ext hE12_19
  replace o7_1 := o7_1.ext hE12_19
  replace hSn := hSn.ext hE12_19
  replace hSt := hSt.ext hE12_19
  replace hS5 := hS5.ext hE12_19
  replace hS9 := hS9.ext hE12_19
  replace hS13 := hS13.ext hE12_19
  replace hS14 := hS14.ext hE12_19
  replace hS16 := hS16.ext hE12_19
  replace hS17 := hS17.ext hE12_19
  replace hS18 := hS18.ext hE12_19
  have z_hS19 := hS19.lt
  refine ⟨fun _ _ => (Bks.cons o4_3.blk (Bks.cons o6_1.blk (Bks.cons o7_1.blk Bks.nil))), ?_⟩
  refine RegD.one (i := 21) (by kernel_rfl) rfl rfl rfl rfl (Does.call rfl (v10_ok 1 _)) ?_
  rintro v12_21 H12_21 ⟨⟨B21, c21, rfl, hS21, hf21⟩, hE12_21⟩
  have z12_21 := hE12_21.lt
  replace hE := hE.ext hE12_21
  replace o4_1 := o4_1.ext hE12_21
  replace o4_3 := o4_3.ext hE12_21
  replace o5_1 := o5_1.ext hE12_21
  replace o5_3 := o5_3.ext hE12_21
  replace o6_1 := o6_1.ext hE12_21
  replace o7_1 := o7_1.ext hE12_21
  replace hSn := hSn.ext hE12_21
  replace hSt := hSt.ext hE12_21
  replace hS5 := hS5.ext hE12_21
  replace hS9 := hS9.ext hE12_21
  replace hS13 := hS13.ext hE12_21
  replace hS14 := hS14.ext hE12_21
  replace hS16 := hS16.ext hE12_21
  replace hS17 := hS17.ext hE12_21
  replace hS18 := hS18.ext hE12_21
  replace hS19 := hS19.ext hE12_21
  have z_hS21 := hS21.lt
  refine ⟨fun _ _ => (Bks.cons o4_3.blk (Bks.cons o6_1.blk (Bks.cons o7_1.blk Bks.nil))), ?_⟩
  refine RegD.one (i := 22) (by kernel_rfl) rfl rfl rfl rfl (Does.call rfl (fun10_ok (a := v0T) (b := v1T) (r := pureR) vOk0 vOk1 rfl (by decide) (by decide) hS19 hS21)) ?_
  rintro v12_22 H12_22 ⟨⟨B22, c22, rfl, hS22, hf22⟩, hE12_22⟩
  have z12_22 := hE12_22.lt
  replace hE := hE.ext hE12_22
  replace o4_1 := o4_1.ext hE12_22
  replace o4_3 := o4_3.ext hE12_22
  replace o5_1 := o5_1.ext hE12_22
  replace o5_3 := o5_3.ext hE12_22
  replace o6_1 := o6_1.ext hE12_22
  replace o7_1 := o7_1.ext hE12_22
  replace hSn := hSn.ext hE12_22
  replace hSt := hSt.ext hE12_22
  replace hS5 := hS5.ext hE12_22
  replace hS9 := hS9.ext hE12_22
  replace hS13 := hS13.ext hE12_22
  replace hS14 := hS14.ext hE12_22
  replace hS16 := hS16.ext hE12_22
  replace hS17 := hS17.ext hE12_22
  replace hS18 := hS18.ext hE12_22
  replace hS19 := hS19.ext hE12_22
  replace hS21 := hS21.ext hE12_22
  have z_hS22 := hS22.lt
  refine ⟨fun _ _ => (Bks.cons o4_3.blk (Bks.cons o6_1.blk (Bks.cons o7_1.blk Bks.nil))), ?_⟩
  refine RegD.one (i := 23) (by kernel_rfl) rfl rfl rfl rfl (Does.call rfl (v10_ok 0 _)) ?_
  rintro v12_23 H12_23 ⟨⟨B23, c23, rfl, hS23, hf23⟩, hE12_23⟩
  have z12_23 := hE12_23.lt
  replace hE := hE.ext hE12_23
  replace o4_1 := o4_1.ext hE12_23
  replace o4_3 := o4_3.ext hE12_23
  replace o5_1 := o5_1.ext hE12_23
  replace o5_3 := o5_3.ext hE12_23
  replace o6_1 := o6_1.ext hE12_23
  replace o7_1 := o7_1.ext hE12_23
  replace hSn := hSn.ext hE12_23
  replace hSt := hSt.ext hE12_23
  replace hS5 := hS5.ext hE12_23
  replace hS9 := hS9.ext hE12_23
  replace hS13 := hS13.ext hE12_23
  replace hS14 := hS14.ext hE12_23
  replace hS16 := hS16.ext hE12_23
  replace hS17 := hS17.ext hE12_23
  replace hS18 := hS18.ext hE12_23
  replace hS19 := hS19.ext hE12_23
  replace hS21 := hS21.ext hE12_23
  replace hS22 := hS22.ext hE12_23
  have z_hS23 := hS23.lt
  refine ⟨fun _ _ => (Bks.cons o4_3.blk (Bks.cons o6_1.blk (Bks.cons o7_1.blk Bks.nil))), ?_⟩
  refine RegD.one (i := 28) (by kernel_rfl) rfl rfl rfl rfl (Does.call rfl (fun10_ok (a := nmT) (b := nmT) (r := tail0) trivial trivial rfl (by decide) (by decide) hSn hSn)) ?_
  rintro v12_28 H12_28 ⟨⟨B28, c28, rfl, hS28, hf28⟩, hE12_28⟩
  have z12_28 := hE12_28.lt
  replace hE := hE.ext hE12_28
  replace o4_1 := o4_1.ext hE12_28
  replace o4_3 := o4_3.ext hE12_28
  replace o5_1 := o5_1.ext hE12_28
  replace o5_3 := o5_3.ext hE12_28
  replace o6_1 := o6_1.ext hE12_28
  replace o7_1 := o7_1.ext hE12_28
  replace hSn := hSn.ext hE12_28
  replace hSt := hSt.ext hE12_28
  replace hS5 := hS5.ext hE12_28
  replace hS9 := hS9.ext hE12_28
  replace hS13 := hS13.ext hE12_28
  replace hS14 := hS14.ext hE12_28
  replace hS16 := hS16.ext hE12_28
  replace hS17 := hS17.ext hE12_28
  replace hS18 := hS18.ext hE12_28
  replace hS19 := hS19.ext hE12_28
  replace hS21 := hS21.ext hE12_28
  replace hS22 := hS22.ext hE12_28
  replace hS23 := hS23.ext hE12_28
  have z_hS28 := hS28.lt
  refine ⟨fun _ _ => (Bks.cons o4_3.blk (Bks.cons o6_1.blk (Bks.cons o7_1.blk Bks.nil))), ?_⟩
  refine RegD.one (i := 29) (by kernel_rfl) rfl rfl rfl rfl (Does.call rfl (fun10_ok (a := v0T) (b := (.fn nmT tail0 nmT)) (r := tail0) vOk0 fOk0 rfl (by decide) (by decide) hS23 hS28)) ?_
  rintro v12_29 H12_29 ⟨⟨B29, c29, rfl, hS29, hf29⟩, hE12_29⟩
  have z12_29 := hE12_29.lt
  replace hE := hE.ext hE12_29
  replace o4_1 := o4_1.ext hE12_29
  replace o4_3 := o4_3.ext hE12_29
  replace o5_1 := o5_1.ext hE12_29
  replace o5_3 := o5_3.ext hE12_29
  replace o6_1 := o6_1.ext hE12_29
  replace o7_1 := o7_1.ext hE12_29
  replace hSn := hSn.ext hE12_29
  replace hSt := hSt.ext hE12_29
  replace hS5 := hS5.ext hE12_29
  replace hS9 := hS9.ext hE12_29
  replace hS13 := hS13.ext hE12_29
  replace hS14 := hS14.ext hE12_29
  replace hS16 := hS16.ext hE12_29
  replace hS17 := hS17.ext hE12_29
  replace hS18 := hS18.ext hE12_29
  replace hS19 := hS19.ext hE12_29
  replace hS21 := hS21.ext hE12_29
  replace hS22 := hS22.ext hE12_29
  replace hS23 := hS23.ext hE12_29
  replace hS28 := hS28.ext hE12_29
  have z_hS29 := hS29.lt
  refine ⟨fun _ _ => (Bks.cons o4_3.blk (Bks.cons o6_1.blk (Bks.cons o7_1.blk Bks.nil))), ?_⟩
  refine RegD.one (i := 30) (by kernel_rfl) rfl rfl rfl rfl (Does.bslA ([[_], [_], [_], [_], [_], [_], [_], [_], [_]]) slA57 rfl rfl rfl rfl rfl rfl) ?_
  rintro _ H12_30 ⟨rfl, hp12_30⟩
  have hn12_30 := New.of_eq hp12_30
  have z12_30 := hn12_30.size
  replace hE := hE.ext hn12_30.ext
  replace o4_1 := o4_1.ext hn12_30.ext
  replace o4_3 := o4_3.ext hn12_30.ext
  replace o5_1 := o5_1.ext hn12_30.ext
  replace o5_3 := o5_3.ext hn12_30.ext
  replace o6_1 := o6_1.ext hn12_30.ext
  replace o7_1 := o7_1.ext hn12_30.ext
  replace hSn := hSn.ext hn12_30.ext
  replace hSt := hSt.ext hn12_30.ext
  replace hS5 := hS5.ext hn12_30.ext
  replace hS9 := hS9.ext hn12_30.ext
  replace hS13 := hS13.ext hn12_30.ext
  replace hS14 := hS14.ext hn12_30.ext
  replace hS16 := hS16.ext hn12_30.ext
  replace hS17 := hS17.ext hn12_30.ext
  replace hS18 := hS18.ext hn12_30.ext
  replace hS19 := hS19.ext hn12_30.ext
  replace hS21 := hS21.ext hn12_30.ext
  replace hS22 := hS22.ext hn12_30.ext
  replace hS23 := hS23.ext hn12_30.ext
  replace hS28 := hS28.ext hn12_30.ext
  replace hS29 := hS29.ext hn12_30.ext
  have o12_30 := hn12_30.own
  obtain ⟨cA, oA, hA⟩ := tyA_mk (L := fmA (someR d)) o12_30 (tyA9 (t0 := nmT) (t1 := nmT) hSn hSn hS5 hS9 hS13 hS17 hS18 hS22 hS29)

  clear hS5 hS9 hS13 hS14 hS16 hS17 hS18 hS19 hS21 hS22 hS23 hS28 hS29

  have z_oA := oA.lt
  have z_hA := hA.lt
  refine ⟨fun _ _ => (Bks.cons o4_3.blk (Bks.cons o6_1.blk (Bks.cons o7_1.blk Bks.nil))), ?_⟩
  refine RegD.tpur (i := 31) rfl rfl rfl rfl (by kernel_rfl) (Pur.asg rfl) ?_
  refine RegD.done (by kernel_rfl) ?_
  refine At.drawE ((Bks.cons o4_3.blk (Bks.cons o5_3.blk (Bks.cons o6_1.blk (Bks.cons o7_1.blk Bks.nil))))) [] mixed rfl rfl ?_
  refine RegD.take (i := 0) rfl rfl rfl rfl (by kernel_rfl) (Bks.cons o4_3.blk (Bks.cons o5_3.blk (Bks.cons o6_1.blk (Bks.cons o7_1.blk Bks.nil)))) (fun H hS => Lod.ldn ag25 rfl hS.tl.hd (whole rfl) rfl) ?_
  refine RegD.take (i := 1) rfl rfl rfl rfl (by kernel_rfl) (Bks.cons o4_3.blk (Bks.cons o5_3.blk (Bks.cons o6_1.blk (Bks.cons o7_1.blk Bks.nil)))) (fun H hS => Lod.ldn ag25 rfl hS.hd (whole rfl) rfl) ?_
  refine RegD.take (i := 2) rfl rfl rfl rfl (by kernel_rfl) (Bks.cons o4_3.blk (Bks.cons o5_3.blk (Bks.cons o6_1.blk (Bks.cons o7_1.blk Bks.nil)))) (fun H hS => Lod.ldn ag28 rfl hS.tl.tl.hd (whole rfl) rfl) ?_
  refine RegD.take (i := 3) rfl rfl rfl rfl (by kernel_rfl) (Bks.cons o4_3.blk (Bks.cons o5_3.blk (Bks.cons o6_1.blk (Bks.cons o7_1.blk Bks.nil)))) (fun H hS => Lod.ldn ag25 rfl hS.hd (whole rfl) rfl) ?_
  refine RegD.take (i := 5) rfl rfl rfl rfl (by kernel_rfl) (Bks.cons o4_3.blk (Bks.cons o5_3.blk (Bks.cons o6_1.blk (Bks.cons o7_1.blk Bks.nil)))) (fun H hS => Lod.ldn ag25 rfl hS.tl.hd (whole rfl) rfl) ?_
  refine RegD.take (i := 6) rfl rfl rfl rfl (by kernel_rfl) (Bks.cons o4_3.blk (Bks.cons o5_3.blk (Bks.cons o6_1.blk (Bks.cons o7_1.blk Bks.nil)))) (fun H hS => Lod.ldn ag28 rfl hS.tl.tl.hd (whole rfl) rfl) ?_
  refine RegD.take (i := 7) rfl rfl rfl rfl (by kernel_rfl) (Bks.cons o4_3.blk (Bks.cons o5_3.blk (Bks.cons o6_1.blk (Bks.cons o7_1.blk Bks.nil)))) (fun H hS => Lod.ldn ag25 rfl hS.hd (whole rfl) rfl) ?_
  refine RegD.take (i := 9) rfl rfl rfl rfl (by kernel_rfl) (Bks.cons o4_3.blk (Bks.cons o5_3.blk (Bks.cons o6_1.blk (Bks.cons o7_1.blk Bks.nil)))) (fun H hS => Lod.ldn ag25 rfl hS.hd (whole rfl) rfl) ?_
  refine RegD.take (i := 10) rfl rfl rfl rfl (by kernel_rfl) (Bks.cons o4_3.blk (Bks.cons o5_3.blk (Bks.cons o6_1.blk (Bks.cons o7_1.blk Bks.nil)))) (fun H hS => Lod.ldn ag28 rfl hS.tl.tl.hd (whole rfl) rfl) ?_
  refine RegD.take (i := 11) rfl rfl rfl rfl (by kernel_rfl) (Bks.cons o4_3.blk (Bks.cons o5_3.blk (Bks.cons o6_1.blk (Bks.cons o7_1.blk Bks.nil)))) (fun H hS => Lod.ldn ag25 rfl hS.tl.hd (whole rfl) rfl) ?_
  refine RegD.take (i := 13) rfl rfl rfl rfl (by kernel_rfl) (Bks.cons o4_3.blk (Bks.cons o5_3.blk (Bks.cons o6_1.blk (Bks.cons o7_1.blk Bks.nil)))) (fun H hS => Lod.ldn ag25 rfl hS.hd (whole rfl) rfl) ?_
  refine RegD.take (i := 14) rfl rfl rfl rfl (by kernel_rfl) (Bks.cons o4_3.blk (Bks.cons o5_3.blk (Bks.cons o6_1.blk (Bks.cons o7_1.blk Bks.nil)))) (fun H hS => Lod.ldn ag28 rfl hS.tl.tl.hd (whole rfl) rfl) ?_
  refine RegD.take (i := 15) rfl rfl rfl rfl (by kernel_rfl) (Bks.cons o4_3.blk (Bks.cons o5_3.blk (Bks.cons o6_1.blk (Bks.cons o7_1.blk Bks.nil)))) (fun H hS => Lod.ldn ag25 rfl hS.hd (whole rfl) rfl) ?_
  refine RegD.take (i := 17) rfl rfl rfl rfl (by kernel_rfl) (Bks.cons o4_3.blk (Bks.cons o5_3.blk (Bks.cons o6_1.blk (Bks.cons o7_1.blk Bks.nil)))) (fun H hS => Lod.ldn ag25 rfl hS.hd (whole rfl) rfl) ?_
  refine RegD.take (i := 18) rfl rfl rfl rfl (by kernel_rfl) (Bks.cons o4_3.blk (Bks.cons o5_3.blk (Bks.cons o6_1.blk (Bks.cons o7_1.blk Bks.nil)))) (fun H hS => Lod.ldn ag28 rfl hS.tl.tl.hd (whole rfl) rfl) ?_
  refine RegD.take (i := 19) rfl rfl rfl rfl (by kernel_rfl) (Bks.cons o4_3.blk (Bks.cons o5_3.blk (Bks.cons o6_1.blk (Bks.cons o7_1.blk Bks.nil)))) (fun H hS => Lod.ldn ag25 rfl hS.tl.hd (whole rfl) rfl) ?_
  refine RegD.take (i := 22) rfl rfl rfl rfl (by kernel_rfl) (Bks.cons o4_3.blk (Bks.cons o5_3.blk (Bks.cons o6_1.blk (Bks.cons o7_1.blk Bks.nil)))) (fun H hS => Lod.ldn ag28 rfl hS.tl.tl.hd (whole rfl) rfl) ?_
  refine RegD.take (i := 23) rfl rfl rfl rfl (by kernel_rfl) (Bks.cons o4_3.blk (Bks.cons o5_3.blk (Bks.cons o6_1.blk (Bks.cons o7_1.blk Bks.nil)))) (fun H hS => Lod.ldn ag25 rfl hS.hd (whole rfl) rfl) ?_
  refine RegD.take (i := 26) rfl rfl rfl rfl (by kernel_rfl) (Bks.cons o4_3.blk (Bks.cons o5_3.blk (Bks.cons o6_1.blk (Bks.cons o7_1.blk Bks.nil)))) (fun H hS => Lod.ldn ag28 rfl hS.tl.tl.hd (whole rfl) rfl) ?_
  refine RegD.take (i := 28) rfl rfl rfl rfl (by kernel_rfl) (Bks.cons o4_3.blk (Bks.cons o5_3.blk (Bks.cons o6_1.blk (Bks.cons o7_1.blk Bks.nil)))) (fun H hS => Lod.ldn ag28 rfl hS.tl.tl.hd (whole rfl) rfl) ?_
  refine RegD.take (i := 29) rfl rfl rfl rfl (by kernel_rfl) (Bks.cons o4_3.blk (Bks.cons o5_3.blk (Bks.cons o6_1.blk (Bks.cons o7_1.blk Bks.nil)))) (fun H hS => Lod.ldn ag25 rfl hS.hd (whole rfl) rfl) ?_
  refine RegD.take (i := 32) rfl rfl rfl rfl (by kernel_rfl) (Bks.cons o4_3.blk (Bks.cons o5_3.blk (Bks.cons o6_1.blk (Bks.cons o7_1.blk Bks.nil)))) (fun H hS => Lod.ldn ag25 rfl hS.hd (whole rfl) rfl) ?_
  refine RegD.take (i := 33) rfl rfl rfl rfl (by kernel_rfl) (Bks.cons o4_3.blk (Bks.cons o5_3.blk (Bks.cons o6_1.blk (Bks.cons o7_1.blk Bks.nil)))) (fun H hS => Lod.ldn ag28 rfl hS.tl.tl.hd (whole rfl) rfl) ?_
  refine RegD.take (i := 34) rfl rfl rfl rfl (by kernel_rfl) (Bks.cons o4_3.blk (Bks.cons o5_3.blk (Bks.cons o6_1.blk (Bks.cons o7_1.blk Bks.nil)))) (fun H hS => Lod.ldn ag25 rfl hS.hd (whole rfl) rfl) ?_
  refine RegD.take (i := 35) rfl rfl rfl rfl (by kernel_rfl) (Bks.cons o4_3.blk (Bks.cons o5_3.blk (Bks.cons o6_1.blk (Bks.cons o7_1.blk Bks.nil)))) (fun H hS => Lod.ldn ag28 rfl hS.tl.tl.tl.hd (whole (by simp [hs5])) (by simp [hs5])) ?_
  refine RegD.take (i := 36) rfl rfl rfl rfl (by kernel_rfl) (Bks.cons o4_3.blk (Bks.cons o5_3.blk (Bks.cons o6_1.blk (Bks.cons o7_1.blk Bks.nil)))) (fun H hS => Lod.ldn ag25 rfl hS.hd (whole rfl) rfl) ?_
  refine RegD.one (i := 4) (by kernel_rfl) rfl rfl rfl rfl (Does.call rfl (fun10_ok (a := nmT) (b := nmT) (r := pureR) trivial trivial rfl (by decide) (by decide) hSn hSn)) ?_
  rintro v13_4 H13_4 ⟨⟨B4, c4, rfl, hS4, hf4⟩, hE13_4⟩
  have z13_4 := hE13_4.lt
  replace hE := hE.ext hE13_4
  replace o4_1 := o4_1.ext hE13_4
  replace o4_3 := o4_3.ext hE13_4
  replace o5_1 := o5_1.ext hE13_4
  replace o5_3 := o5_3.ext hE13_4
  replace o6_1 := o6_1.ext hE13_4
  replace o7_1 := o7_1.ext hE13_4
  replace hSn := hSn.ext hE13_4
  replace hSt := hSt.ext hE13_4
  replace oA := oA.ext hE13_4
  replace hA := hA.ext hE13_4
  have z_hS4 := hS4.lt
  refine ⟨fun _ _ => (Bks.cons o4_3.blk (Bks.cons o5_3.blk (Bks.cons o6_1.blk (Bks.cons o7_1.blk Bks.nil)))), ?_⟩
  refine RegD.one (i := 8) (by kernel_rfl) rfl rfl rfl rfl (Does.call rfl (fun10_ok (a := trT) (b := nmT) (r := pureR) trivial trivial rfl (by decide) (by decide) hSt hSn)) ?_
  rintro v13_8 H13_8 ⟨⟨B8, c8, rfl, hS8, hf8⟩, hE13_8⟩
  have z13_8 := hE13_8.lt
  replace hE := hE.ext hE13_8
  replace o4_1 := o4_1.ext hE13_8
  replace o4_3 := o4_3.ext hE13_8
  replace o5_1 := o5_1.ext hE13_8
  replace o5_3 := o5_3.ext hE13_8
  replace o6_1 := o6_1.ext hE13_8
  replace o7_1 := o7_1.ext hE13_8
  replace hSn := hSn.ext hE13_8
  replace hSt := hSt.ext hE13_8
  replace oA := oA.ext hE13_8
  replace hA := hA.ext hE13_8
  replace hS4 := hS4.ext hE13_8
  have z_hS8 := hS8.lt
  refine ⟨fun _ _ => (Bks.cons o4_3.blk (Bks.cons o5_3.blk (Bks.cons o6_1.blk (Bks.cons o7_1.blk Bks.nil)))), ?_⟩
  refine RegD.one (i := 12) (by kernel_rfl) rfl rfl rfl rfl (Does.call rfl (fun10_ok (a := nmT) (b := trT) (r := pureR) trivial trivial rfl (by decide) (by decide) hSn hSt)) ?_
  rintro v13_12 H13_12 ⟨⟨B12, c12, rfl, hS12, hf12⟩, hE13_12⟩
  have z13_12 := hE13_12.lt
  replace hE := hE.ext hE13_12
  replace o4_1 := o4_1.ext hE13_12
  replace o4_3 := o4_3.ext hE13_12
  replace o5_1 := o5_1.ext hE13_12
  replace o5_3 := o5_3.ext hE13_12
  replace o6_1 := o6_1.ext hE13_12
  replace o7_1 := o7_1.ext hE13_12
  replace hSn := hSn.ext hE13_12
  replace hSt := hSt.ext hE13_12
  replace oA := oA.ext hE13_12
  replace hA := hA.ext hE13_12
  replace hS4 := hS4.ext hE13_12
  replace hS8 := hS8.ext hE13_12
  have z_hS12 := hS12.lt
  refine ⟨fun _ _ => (Bks.cons o4_3.blk (Bks.cons o5_3.blk (Bks.cons o6_1.blk (Bks.cons o7_1.blk Bks.nil)))), ?_⟩
  refine RegD.one (i := 16) (by kernel_rfl) rfl rfl rfl rfl (Does.call rfl (fun10_ok (a := nmT) (b := nmT) (r := pureR) trivial trivial rfl (by decide) (by decide) hSn hSn)) ?_
  rintro v13_16 H13_16 ⟨⟨B16, c16, rfl, hS16, hf16⟩, hE13_16⟩
  have z13_16 := hE13_16.lt
  replace hE := hE.ext hE13_16
  replace o4_1 := o4_1.ext hE13_16
  replace o4_3 := o4_3.ext hE13_16
  replace o5_1 := o5_1.ext hE13_16
  replace o5_3 := o5_3.ext hE13_16
  replace o6_1 := o6_1.ext hE13_16
  replace o7_1 := o7_1.ext hE13_16
  replace hSn := hSn.ext hE13_16
  replace hSt := hSt.ext hE13_16
  replace oA := oA.ext hE13_16
  replace hA := hA.ext hE13_16
  replace hS4 := hS4.ext hE13_16
  replace hS8 := hS8.ext hE13_16
  replace hS12 := hS12.ext hE13_16
  have z_hS16 := hS16.lt
  refine ⟨fun _ _ => (Bks.cons o4_3.blk (Bks.cons o5_3.blk (Bks.cons o6_1.blk (Bks.cons o7_1.blk Bks.nil)))), ?_⟩
  refine RegD.one (i := 20) (by kernel_rfl) rfl rfl rfl rfl (Does.call rfl (fun10_ok (a := nmT) (b := trT) (r := pureR) trivial trivial rfl (by decide) (by decide) hSn hSt)) ?_
  rintro v13_20 H13_20 ⟨⟨B20, c20, rfl, hS20, hf20⟩, hE13_20⟩
  have z13_20 := hE13_20.lt
  replace hE := hE.ext hE13_20
  replace o4_1 := o4_1.ext hE13_20
  replace o4_3 := o4_3.ext hE13_20
  replace o5_1 := o5_1.ext hE13_20
  replace o5_3 := o5_3.ext hE13_20
  replace o6_1 := o6_1.ext hE13_20
  replace o7_1 := o7_1.ext hE13_20
  replace hSn := hSn.ext hE13_20
  replace hSt := hSt.ext hE13_20
  replace oA := oA.ext hE13_20
  replace hA := hA.ext hE13_20
  replace hS4 := hS4.ext hE13_20
  replace hS8 := hS8.ext hE13_20
  replace hS12 := hS12.ext hE13_20
  replace hS16 := hS16.ext hE13_20
  have z_hS20 := hS20.lt
  refine ⟨fun _ _ => (Bks.cons o4_3.blk (Bks.cons o5_3.blk (Bks.cons o6_1.blk (Bks.cons o7_1.blk Bks.nil)))), ?_⟩
  refine RegD.one (i := 21) (by kernel_rfl) rfl rfl rfl rfl (Does.call rfl (v10_ok 0 _)) ?_
  rintro v13_21 H13_21 ⟨⟨B21, c21, rfl, hS21, hf21⟩, hE13_21⟩
  have z13_21 := hE13_21.lt
  replace hE := hE.ext hE13_21
  replace o4_1 := o4_1.ext hE13_21
  replace o4_3 := o4_3.ext hE13_21
  replace o5_1 := o5_1.ext hE13_21
  replace o5_3 := o5_3.ext hE13_21
  replace o6_1 := o6_1.ext hE13_21
  replace o7_1 := o7_1.ext hE13_21
  replace hSn := hSn.ext hE13_21
  replace hSt := hSt.ext hE13_21
  replace oA := oA.ext hE13_21
  replace hA := hA.ext hE13_21
  replace hS4 := hS4.ext hE13_21
  replace hS8 := hS8.ext hE13_21
  replace hS12 := hS12.ext hE13_21
  replace hS16 := hS16.ext hE13_21
  replace hS20 := hS20.ext hE13_21
  have z_hS21 := hS21.lt
  refine ⟨fun _ _ => (Bks.cons o4_3.blk (Bks.cons o5_3.blk (Bks.cons o6_1.blk (Bks.cons o7_1.blk Bks.nil)))), ?_⟩
  refine RegD.one (i := 24) (by kernel_rfl) rfl rfl rfl rfl (Does.call rfl (fun10_ok (a := v0T) (b := nmT) (r := pureR) vOk0 trivial rfl (by decide) (by decide) hS21 hSn)) ?_
  rintro v13_24 H13_24 ⟨⟨B24, c24, rfl, hS24, hf24⟩, hE13_24⟩
  have z13_24 := hE13_24.lt
  replace hE := hE.ext hE13_24
  replace o4_1 := o4_1.ext hE13_24
  replace o4_3 := o4_3.ext hE13_24
  replace o5_1 := o5_1.ext hE13_24
  replace o5_3 := o5_3.ext hE13_24
  replace o6_1 := o6_1.ext hE13_24
  replace o7_1 := o7_1.ext hE13_24
  replace hSn := hSn.ext hE13_24
  replace hSt := hSt.ext hE13_24
  replace oA := oA.ext hE13_24
  replace hA := hA.ext hE13_24
  replace hS4 := hS4.ext hE13_24
  replace hS8 := hS8.ext hE13_24
  replace hS12 := hS12.ext hE13_24
  replace hS16 := hS16.ext hE13_24
  replace hS20 := hS20.ext hE13_24
  replace hS21 := hS21.ext hE13_24
  have z_hS24 := hS24.lt
  refine ⟨fun _ _ => (Bks.cons o4_3.blk (Bks.cons o5_3.blk (Bks.cons o6_1.blk (Bks.cons o7_1.blk Bks.nil)))), ?_⟩
  refine RegD.one (i := 25) (by kernel_rfl) rfl rfl rfl rfl (Does.call rfl (v10_ok 1 _)) ?_
  rintro v13_25 H13_25 ⟨⟨B25, c25, rfl, hS25, hf25⟩, hE13_25⟩
  have z13_25 := hE13_25.lt
  replace hE := hE.ext hE13_25
  replace o4_1 := o4_1.ext hE13_25
  replace o4_3 := o4_3.ext hE13_25
  replace o5_1 := o5_1.ext hE13_25
  replace o5_3 := o5_3.ext hE13_25
  replace o6_1 := o6_1.ext hE13_25
  replace o7_1 := o7_1.ext hE13_25
  replace hSn := hSn.ext hE13_25
  replace hSt := hSt.ext hE13_25
  replace oA := oA.ext hE13_25
  replace hA := hA.ext hE13_25
  replace hS4 := hS4.ext hE13_25
  replace hS8 := hS8.ext hE13_25
  replace hS12 := hS12.ext hE13_25
  replace hS16 := hS16.ext hE13_25
  replace hS20 := hS20.ext hE13_25
  replace hS21 := hS21.ext hE13_25
  replace hS24 := hS24.ext hE13_25
  have z_hS25 := hS25.lt
  refine ⟨fun _ _ => (Bks.cons o4_3.blk (Bks.cons o5_3.blk (Bks.cons o6_1.blk (Bks.cons o7_1.blk Bks.nil)))), ?_⟩
  refine RegD.one (i := 27) (by kernel_rfl) rfl rfl rfl rfl (Does.call rfl (v10_ok 0 _)) ?_
  rintro v13_27 H13_27 ⟨⟨B27, c27, rfl, hS27, hf27⟩, hE13_27⟩
  have z13_27 := hE13_27.lt
  replace hE := hE.ext hE13_27
  replace o4_1 := o4_1.ext hE13_27
  replace o4_3 := o4_3.ext hE13_27
  replace o5_1 := o5_1.ext hE13_27
  replace o5_3 := o5_3.ext hE13_27
  replace o6_1 := o6_1.ext hE13_27
  replace o7_1 := o7_1.ext hE13_27
  replace hSn := hSn.ext hE13_27
  replace hSt := hSt.ext hE13_27
  replace oA := oA.ext hE13_27
  replace hA := hA.ext hE13_27
  replace hS4 := hS4.ext hE13_27
  replace hS8 := hS8.ext hE13_27
  replace hS12 := hS12.ext hE13_27
  replace hS16 := hS16.ext hE13_27
  replace hS20 := hS20.ext hE13_27
  replace hS21 := hS21.ext hE13_27
  replace hS24 := hS24.ext hE13_27
  replace hS25 := hS25.ext hE13_27
  have z_hS27 := hS27.lt
  refine ⟨fun _ _ => (Bks.cons o4_3.blk (Bks.cons o5_3.blk (Bks.cons o6_1.blk (Bks.cons o7_1.blk Bks.nil)))), ?_⟩
  refine RegD.one (i := 30) (by kernel_rfl) rfl rfl rfl rfl (Does.call rfl (fun10_ok (a := v0T) (b := nmT) (r := pureR) vOk0 trivial rfl (by decide) (by decide) hS27 hSn)) ?_
  rintro v13_30 H13_30 ⟨⟨B30, c30, rfl, hS30, hf30⟩, hE13_30⟩
  have z13_30 := hE13_30.lt
  replace hE := hE.ext hE13_30
  replace o4_1 := o4_1.ext hE13_30
  replace o4_3 := o4_3.ext hE13_30
  replace o5_1 := o5_1.ext hE13_30
  replace o5_3 := o5_3.ext hE13_30
  replace o6_1 := o6_1.ext hE13_30
  replace o7_1 := o7_1.ext hE13_30
  replace hSn := hSn.ext hE13_30
  replace hSt := hSt.ext hE13_30
  replace oA := oA.ext hE13_30
  replace hA := hA.ext hE13_30
  replace hS4 := hS4.ext hE13_30
  replace hS8 := hS8.ext hE13_30
  replace hS12 := hS12.ext hE13_30
  replace hS16 := hS16.ext hE13_30
  replace hS20 := hS20.ext hE13_30
  replace hS21 := hS21.ext hE13_30
  replace hS24 := hS24.ext hE13_30
  replace hS25 := hS25.ext hE13_30
  replace hS27 := hS27.ext hE13_30
  have z_hS30 := hS30.lt
  refine ⟨fun _ _ => (Bks.cons o4_3.blk (Bks.cons o5_3.blk (Bks.cons o6_1.blk (Bks.cons o7_1.blk Bks.nil)))), ?_⟩
  refine RegD.one (i := 31) (by kernel_rfl) rfl rfl rfl rfl (Does.call rfl (fun10_ok (a := v1T) (b := (.fn v0T pureR nmT)) (r := pureR) vOk1 fOk1 rfl (by decide) (by decide) hS25 hS30)) ?_
  rintro v13_31 H13_31 ⟨⟨B31, c31, rfl, hS31, hf31⟩, hE13_31⟩
  have z13_31 := hE13_31.lt
  replace hE := hE.ext hE13_31
  replace o4_1 := o4_1.ext hE13_31
  replace o4_3 := o4_3.ext hE13_31
  replace o5_1 := o5_1.ext hE13_31
  replace o5_3 := o5_3.ext hE13_31
  replace o6_1 := o6_1.ext hE13_31
  replace o7_1 := o7_1.ext hE13_31
  replace hSn := hSn.ext hE13_31
  replace hSt := hSt.ext hE13_31
  replace oA := oA.ext hE13_31
  replace hA := hA.ext hE13_31
  replace hS4 := hS4.ext hE13_31
  replace hS8 := hS8.ext hE13_31
  replace hS12 := hS12.ext hE13_31
  replace hS16 := hS16.ext hE13_31
  replace hS20 := hS20.ext hE13_31
  replace hS21 := hS21.ext hE13_31
  replace hS24 := hS24.ext hE13_31
  replace hS25 := hS25.ext hE13_31
  replace hS27 := hS27.ext hE13_31
  replace hS30 := hS30.ext hE13_31
  have z_hS31 := hS31.lt
  refine ⟨fun _ _ => (Bks.cons o4_3.blk (Bks.cons o5_3.blk (Bks.cons o6_1.blk (Bks.cons o7_1.blk Bks.nil)))), ?_⟩
  refine RegD.one (i := 37) (by kernel_rfl) rfl rfl rfl rfl (Does.call rfl (fun10_ok (a := nmT) (b := nmT) (r := someR d) trivial trivial hs5 (by decide) (by decide) hSn hSn)) ?_
  rintro v13_37 H13_37 ⟨⟨B37, c37, rfl, hS37, hf37⟩, hE13_37⟩
  have z13_37 := hE13_37.lt
  replace hE := hE.ext hE13_37
  replace o4_1 := o4_1.ext hE13_37
  replace o4_3 := o4_3.ext hE13_37
  replace o5_1 := o5_1.ext hE13_37
  replace o5_3 := o5_3.ext hE13_37
  replace o6_1 := o6_1.ext hE13_37
  replace o7_1 := o7_1.ext hE13_37
  replace hSn := hSn.ext hE13_37
  replace hSt := hSt.ext hE13_37
  replace oA := oA.ext hE13_37
  replace hA := hA.ext hE13_37
  replace hS4 := hS4.ext hE13_37
  replace hS8 := hS8.ext hE13_37
  replace hS12 := hS12.ext hE13_37
  replace hS16 := hS16.ext hE13_37
  replace hS20 := hS20.ext hE13_37
  replace hS21 := hS21.ext hE13_37
  replace hS24 := hS24.ext hE13_37
  replace hS25 := hS25.ext hE13_37
  replace hS27 := hS27.ext hE13_37
  replace hS30 := hS30.ext hE13_37
  replace hS31 := hS31.ext hE13_37
  have z_hS37 := hS37.lt
  refine ⟨fun _ _ => (Bks.cons o4_3.blk (Bks.cons o5_3.blk (Bks.cons o6_1.blk (Bks.cons o7_1.blk Bks.nil)))), ?_⟩
  refine RegD.one (i := 38) (by kernel_rfl) rfl rfl rfl rfl (Does.call rfl (fun10_ok (a := nmT) (b := (.fn nmT (someR d) nmT)) (r := pureR) trivial fOk2 rfl (by decide) (Nat.le_of_ble_eq_true rfl) hSn hS37)) ?_
  rintro v13_38 H13_38 ⟨⟨B38, c38, rfl, hS38, hf38⟩, hE13_38⟩
  have z13_38 := hE13_38.lt
  replace hE := hE.ext hE13_38
  replace o4_1 := o4_1.ext hE13_38
  replace o4_3 := o4_3.ext hE13_38
  replace o5_1 := o5_1.ext hE13_38
  replace o5_3 := o5_3.ext hE13_38
  replace o6_1 := o6_1.ext hE13_38
  replace o7_1 := o7_1.ext hE13_38
  replace hSn := hSn.ext hE13_38
  replace hSt := hSt.ext hE13_38
  replace oA := oA.ext hE13_38
  replace hA := hA.ext hE13_38
  replace hS4 := hS4.ext hE13_38
  replace hS8 := hS8.ext hE13_38
  replace hS12 := hS12.ext hE13_38
  replace hS16 := hS16.ext hE13_38
  replace hS20 := hS20.ext hE13_38
  replace hS21 := hS21.ext hE13_38
  replace hS24 := hS24.ext hE13_38
  replace hS25 := hS25.ext hE13_38
  replace hS27 := hS27.ext hE13_38
  replace hS30 := hS30.ext hE13_38
  replace hS31 := hS31.ext hE13_38
  replace hS37 := hS37.ext hE13_38
  have z_hS38 := hS38.lt
  refine ⟨fun _ _ => (Bks.cons o4_3.blk (Bks.cons o5_3.blk (Bks.cons o6_1.blk (Bks.cons o7_1.blk Bks.nil)))), ?_⟩
  refine RegD.one (i := 39) (by kernel_rfl) rfl rfl rfl rfl (Does.bslA ([[_], [_], [_], [_], [_], [_], [_], [_], [_]]) slA57 rfl rfl rfl rfl rfl rfl) ?_
  rintro _ H13_39 ⟨rfl, hp13_39⟩
  have hn13_39 := New.of_eq hp13_39
  have z13_39 := hn13_39.size
  replace hE := hE.ext hn13_39.ext
  replace o4_1 := o4_1.ext hn13_39.ext
  replace o4_3 := o4_3.ext hn13_39.ext
  replace o5_1 := o5_1.ext hn13_39.ext
  replace o5_3 := o5_3.ext hn13_39.ext
  replace o6_1 := o6_1.ext hn13_39.ext
  replace o7_1 := o7_1.ext hn13_39.ext
  replace hSn := hSn.ext hn13_39.ext
  replace hSt := hSt.ext hn13_39.ext
  replace oA := oA.ext hn13_39.ext
  replace hA := hA.ext hn13_39.ext
  replace hS4 := hS4.ext hn13_39.ext
  replace hS8 := hS8.ext hn13_39.ext
  replace hS12 := hS12.ext hn13_39.ext
  replace hS16 := hS16.ext hn13_39.ext
  replace hS20 := hS20.ext hn13_39.ext
  replace hS21 := hS21.ext hn13_39.ext
  replace hS24 := hS24.ext hn13_39.ext
  replace hS25 := hS25.ext hn13_39.ext
  replace hS27 := hS27.ext hn13_39.ext
  replace hS30 := hS30.ext hn13_39.ext
  replace hS31 := hS31.ext hn13_39.ext
  replace hS37 := hS37.ext hn13_39.ext
  replace hS38 := hS38.ext hn13_39.ext
  have o13_39 := hn13_39.own
  obtain ⟨cB, oB, hB⟩ := tyA_mk (L := fmB (someR d)) o13_39 (tyA9 (t0 := trT) hSt hS4 hS8 hS12 hS16 hS20 hS24 hS31 hS38)

  clear hS4 hS8 hS12 hS16 hS20 hS21 hS24 hS25 hS27 hS30 hS31 hS37 hS38 hSn hSt

  have z_oB := oB.lt
  have z_hB := hB.lt
  refine ⟨fun _ _ => (Bks.cons o4_3.blk (Bks.cons o5_3.blk (Bks.cons o6_1.blk (Bks.cons o7_1.blk Bks.nil)))), ?_⟩
  refine RegD.tpur (i := 40) rfl rfl rfl rfl (by kernel_rfl) (Pur.asg rfl) ?_
  refine RegD.done (by kernel_rfl) ?_
  refine At.region rfl rfl ?_
  refine Reg.op rfl rfl rfl rfl (Does.bsl1 sl1_54 rfl rfl rfl rfl rfl) ?_
  rintro _ H14_0 ⟨rfl, hn14_0⟩
  have z14_0 := hn14_0.size
  replace hE := hE.ext hn14_0.ext
  replace o4_1 := o4_1.ext hn14_0.ext
  replace o4_3 := o4_3.ext hn14_0.ext
  replace o5_1 := o5_1.ext hn14_0.ext
  replace o5_3 := o5_3.ext hn14_0.ext
  replace o6_1 := o6_1.ext hn14_0.ext
  replace o7_1 := o7_1.ext hn14_0.ext
  replace oA := oA.ext hn14_0.ext
  replace hA := hA.ext hn14_0.ext
  replace oB := oB.ext hn14_0.ext
  replace hB := hB.ext hn14_0.ext
  have o14_0 := hn14_0.own
  refine Reg.pur rfl rfl rfl rfl (Pur.asg rfl) ?_
  refine Reg.nil ?_
  refine At.region rfl rfl ?_
  refine Reg.pur rfl rfl rfl rfl (Pur.mv rfl) ?_
  refine Reg.pur rfl rfl rfl rfl (Pur.cnv Try.underlying3 Try.underlying51 rfl) ?_
  refine Reg.pur rfl rfl rfl rfl (Pur.rem rfl rfl (by decide)) ?_
  refine Reg.pur rfl rfl rfl rfl (Pur.cnv Try.underlying51 Try.underlying3 rfl) ?_
  refine Reg.pur rfl rfl rfl rfl (Pur.asg rfl) ?_
  refine Reg.nil ?_
  have hz := umod w 9 (by decide) (by decide)
  generalize IntKind.i64.wrap ((IntKind.u64.wrap w).tmod 9) = z at *
  obtain ⟨k, rfl⟩ := Int.eq_ofNat_of_zero_le hz.1
  have hk : k < 9 := by omega
  obtain ⟨Aa, na, ha1, ha2⟩ := hA.at_ k hk
  obtain ⟨Ab, nb, hb1, hb2⟩ := hB.at_ k hk
  obtain ⟨hc1, hc2⟩ := fm_unf d hk
  obtain ⟨u1, htk, huk, htz, huz⟩ := fmC_unf hc1
  obtain ⟨u2, _, _, _, _⟩ := fmC_unf hc2
  clear hc1 hc2
  generalize (fmA (someR d)).getD k nmT = ta at *
  generalize (fmB (someR d)).getD k nmT = tb at *
  have h9a := ta.enc_nine 0 htk
  have h9b := tb.enc_nine 0 huk
  have hla := ta.enc_len 0
  have hlb := tb.enc_len 0
  have hwk : (Is fmW)[0 + (k : Int).toNat * 1]? = some (I (fmW.getD k 0)) := by rw [Int.toNat_natCast, Nat.zero_add, Nat.mul_one]; exact at_Is hk

  have z_ha2 := ha2.lt
  have z_hb2 := hb2.lt
  refine At.drawE ((Bks.cons oA.blk (Bks.cons oB.blk Bks.nil))) [8] mixed rfl rfl ?_
  refine RegD.tpur (i := 0) rfl rfl rfl rfl (by kernel_rfl) (Pur.mv rfl) ?_
  refine RegD.tpur (i := 1) rfl rfl rfl rfl (by kernel_rfl) (Pur.mv rfl) ?_
  refine RegD.tpur (i := 2) rfl rfl rfl rfl (by kernel_rfl) (Pur.idx _ es57 rfl rfl (by omega) (by omega)) ?_
  refine RegD.take (i := 3) rfl rfl rfl rfl (by kernel_rfl) (Bks.cons oA.blk (Bks.cons oB.blk Bks.nil)) (fun H hS => Lod.ldn ag25 rfl hS.hd (one_at ha1) rfl) ?_
  refine RegD.tpur (i := 4) rfl rfl rfl rfl (by kernel_rfl) (Pur.mv rfl) ?_
  refine RegD.tpur (i := 5) rfl rfl rfl rfl (by kernel_rfl) (Pur.mv rfl) ?_
  refine RegD.tpur (i := 6) rfl rfl rfl rfl (by kernel_rfl) (Pur.idx _ es57 rfl rfl (by omega) (by omega)) ?_
  refine RegD.take (i := 7) rfl rfl rfl rfl (by kernel_rfl) (Bks.cons oA.blk (Bks.cons oB.blk Bks.nil)) (fun H hS => Lod.ldn ag25 rfl hS.tl.hd (one_at hb1) rfl) ?_
  refine RegD.one (i := 8) (by kernel_rfl) rfl rfl rfl rfl (Does.call rfl (unify_ok h9a h9b ha2 hb2 (by omega) (by omega) u1)) ?_
  rintro v16_8 H16_8 ⟨rfl, hE16_8⟩
  have z16_8 := hE16_8.lt
  replace hE := hE.ext hE16_8
  replace o4_1 := o4_1.ext hE16_8
  replace o4_3 := o4_3.ext hE16_8
  replace o5_1 := o5_1.ext hE16_8
  replace o5_3 := o5_3.ext hE16_8
  replace o6_1 := o6_1.ext hE16_8
  replace o7_1 := o7_1.ext hE16_8
  replace oA := oA.ext hE16_8
  replace oB := oB.ext hE16_8
  replace o14_0 := o14_0.ext hE16_8
  replace ha2 := ha2.ext hE16_8
  replace hb2 := hb2.ext hE16_8
  refine ⟨fun h => (by cases h), ?_⟩
  refine RegD.tpur (i := 9) rfl rfl rfl rfl (by kernel_rfl) (Pur.mv rfl) ?_
  refine RegD.tpur (i := 10) rfl rfl rfl rfl (by kernel_rfl) (Pur.ext rfl rfl) ?_
  refine RegD.tpur (i := 11) rfl rfl rfl rfl (by kernel_rfl) (Pur.ext rfl rfl) ?_
  refine RegD.tpur (i := 12) rfl rfl rfl rfl (by kernel_rfl) (Pur.asg rfl) ?_
  refine RegD.tpur (i := 13) rfl rfl rfl rfl (by kernel_rfl) (Pur.asg rfl) ?_
  refine RegD.done (by kernel_rfl) ?_
  refine At.drawE ((Bks.cons oA.blk (Bks.cons oB.blk Bks.nil))) [8] mixed rfl rfl ?_
  refine RegD.tpur (i := 0) rfl rfl rfl rfl (by kernel_rfl) (Pur.mv rfl) ?_
  refine RegD.tpur (i := 1) rfl rfl rfl rfl (by kernel_rfl) (Pur.mv rfl) ?_
  refine RegD.tpur (i := 2) rfl rfl rfl rfl (by kernel_rfl) (Pur.idx _ es57 rfl rfl (by omega) (by omega)) ?_
  refine RegD.take (i := 3) rfl rfl rfl rfl (by kernel_rfl) (Bks.cons oA.blk (Bks.cons oB.blk Bks.nil)) (fun H hS => Lod.ldn ag25 rfl hS.tl.hd (one_at hb1) rfl) ?_
  refine RegD.tpur (i := 4) rfl rfl rfl rfl (by kernel_rfl) (Pur.mv rfl) ?_
  refine RegD.tpur (i := 5) rfl rfl rfl rfl (by kernel_rfl) (Pur.mv rfl) ?_
  refine RegD.tpur (i := 6) rfl rfl rfl rfl (by kernel_rfl) (Pur.idx _ es57 rfl rfl (by omega) (by omega)) ?_
  refine RegD.take (i := 7) rfl rfl rfl rfl (by kernel_rfl) (Bks.cons oA.blk (Bks.cons oB.blk Bks.nil)) (fun H hS => Lod.ldn ag25 rfl hS.hd (one_at ha1) rfl) ?_
  refine RegD.one (i := 8) (by kernel_rfl) rfl rfl rfl rfl (Does.call rfl (unify_ok h9b h9a hb2 ha2 (by omega) (by omega) u2)) ?_
  rintro v17_8 H17_8 ⟨rfl, hE17_8⟩
  have z17_8 := hE17_8.lt
  replace hE := hE.ext hE17_8
  replace o4_1 := o4_1.ext hE17_8
  replace o4_3 := o4_3.ext hE17_8
  replace o5_1 := o5_1.ext hE17_8
  replace o5_3 := o5_3.ext hE17_8
  replace o6_1 := o6_1.ext hE17_8
  replace o7_1 := o7_1.ext hE17_8
  replace oA := oA.ext hE17_8
  replace oB := oB.ext hE17_8
  replace o14_0 := o14_0.ext hE17_8
  replace ha2 := ha2.ext hE17_8
  replace hb2 := hb2.ext hE17_8
  refine ⟨fun h => (by cases h), ?_⟩
  refine RegD.tpur (i := 9) rfl rfl rfl rfl (by kernel_rfl) (Pur.mv rfl) ?_
  refine RegD.tpur (i := 10) rfl rfl rfl rfl (by kernel_rfl) (Pur.ext rfl rfl) ?_
  refine RegD.tpur (i := 11) rfl rfl rfl rfl (by kernel_rfl) (Pur.ext rfl rfl) ?_
  refine RegD.tpur (i := 12) rfl rfl rfl rfl (by kernel_rfl) (Pur.asg rfl) ?_
  refine RegD.tpur (i := 13) rfl rfl rfl rfl (by kernel_rfl) (Pur.asg rfl) ?_
  refine RegD.done (by kernel_rfl) ?_
  refine At.drawE ((Bks.cons o14_0.blk Bks.nil)) [] mixed rfl rfl ?_
  refine RegD.tpur (i := 0) rfl rfl rfl rfl (by kernel_rfl) (Pur.mv rfl) ?_
  refine RegD.one (i := 1) (by kernel_rfl) rfl rfl rfl rfl (Does.call rfl (numE_ok _ _)) ?_
  rintro _ H17_8 ⟨rfl, rfl⟩
  refine ⟨fun _ _ => (Bks.cons o14_0.blk Bks.nil), ?_⟩
  refine RegD.tpur (i := 2) rfl rfl rfl rfl (by kernel_rfl) (Pur.eql rfl rfl) ?_
  refine RegD.tpur (i := 3) rfl rfl rfl rfl (by kernel_rfl) (Pur.mv rfl) ?_
  refine RegD.known (b' := true) 169 rfl (by first | rfl | exact decide_eq_true rfl) ?_
  refine RegD.gtpur (i := 4) rfl rfl rfl rfl rfl rfl (by kernel_rfl) (Pur.mv rfl) ?_
  refine RegD.gone (i := 5) (by kernel_rfl) rfl rfl rfl rfl rfl rfl (Does.call rfl (numE_ok _ _)) ?_
  rintro _ H17_8 ⟨rfl, rfl⟩
  refine ⟨fun _ _ => (Bks.cons o14_0.blk Bks.nil), ?_⟩
  refine RegD.gtpur (i := 6) rfl rfl rfl rfl rfl rfl (by kernel_rfl) (Pur.eql rfl rfl) ?_
  refine RegD.tpur (i := 7) rfl rfl rfl rfl (by kernel_rfl) (Pur.pickT rfl rfl) ?_
  refine RegD.tpur (i := 8) rfl rfl rfl rfl (by kernel_rfl) (Pur.mv rfl) ?_
  refine RegD.known (b' := true) 174 rfl (by first | rfl | exact decide_eq_true rfl) ?_
  refine RegD.gtpur (i := 9) rfl rfl rfl rfl rfl rfl (by kernel_rfl) (Pur.mv rfl) ?_
  refine RegD.gone (i := 10) (by kernel_rfl) rfl rfl rfl rfl rfl rfl (Does.call rfl (numE_ok _ _)) ?_
  rintro _ H17_8 ⟨rfl, rfl⟩
  refine ⟨fun _ _ => (Bks.cons o14_0.blk Bks.nil), ?_⟩
  refine RegD.gtpur (i := 11) rfl rfl rfl rfl rfl rfl (by kernel_rfl) (Pur.eql rfl rfl) ?_
  refine RegD.tpur (i := 12) rfl rfl rfl rfl (by kernel_rfl) (Pur.pickT rfl rfl) ?_
  refine RegD.tpur (i := 13) rfl rfl rfl rfl (by kernel_rfl) (Pur.mv rfl) ?_
  refine RegD.known (b' := true) 179 rfl (by first | rfl | exact decide_eq_true rfl) ?_
  refine RegD.gtpur (i := 14) rfl rfl rfl rfl rfl rfl (by kernel_rfl) (Pur.mv rfl) ?_
  refine RegD.gtpur (i := 15) rfl rfl rfl rfl rfl rfl (by kernel_rfl) (Pur.lenS isl22 rfl) ?_
  refine RegD.gtpur (i := 16) rfl rfl rfl rfl rfl rfl (by kernel_rfl) (Pur.mv rfl) ?_
  refine RegD.gtpur (i := 17) rfl rfl rfl rfl rfl rfl (by kernel_rfl) (Pur.lenS isl22 rfl) ?_
  first | refine RegD.gtpur (i := 18) rfl rfl rfl rfl rfl rfl (by kernel_rfl) (Pur.add64 rfl rfl (by omega)) ?_ | refine RegD.gtpur (i := 18) rfl rfl rfl rfl rfl rfl (by kernel_rfl) (Pur.add64 rfl rfl (by assumption)) ?_ | refine RegD.gtpur (i := 18) rfl rfl rfl rfl rfl rfl (by kernel_rfl) (Pur.add rfl rfl) ?_
  refine RegD.gtpur (i := 19) rfl rfl rfl rfl rfl rfl (by kernel_rfl) (Pur.eql rfl rfl) ?_
  refine RegD.tpur (i := 20) rfl rfl rfl rfl (by kernel_rfl) (Pur.pickT rfl rfl) ?_
  refine RegD.tpur (i := 21) rfl rfl rfl rfl (by kernel_rfl) (Pur.mv rfl) ?_
  refine RegD.known (b' := true) 187 rfl (by first | rfl | exact decide_eq_true rfl) ?_
  refine RegD.gtpur (i := 22) rfl rfl rfl rfl rfl rfl (by kernel_rfl) (Pur.mv rfl) ?_
  refine RegD.gtpur (i := 24) rfl rfl rfl rfl rfl rfl (by kernel_rfl) (Pur.mv rfl) ?_
  refine RegD.gtpur (i := 25) rfl rfl rfl rfl rfl rfl (by kernel_rfl) (Pur.mv rfl) ?_
  refine RegD.gtpur (i := 26) rfl rfl rfl rfl rfl rfl (by kernel_rfl) (Pur.idx _ es54 rfl rfl (by omega) (by omega)) ?_
  refine RegD.gtake (i := 27) rfl rfl rfl rfl rfl rfl (by kernel_rfl) (Bks.cons o14_0.blk Bks.nil) (fun H hS => Lod.ld sc3 rfl hS.hd hwk) ?_
  refine RegD.gone (i := 23) (by kernel_rfl) rfl rfl rfl rfl rfl rfl (Does.call rfl (numE_ok _ _)) ?_
  rintro _ H17_8 ⟨rfl, rfl⟩
  refine ⟨fun _ _ => (Bks.cons o14_0.blk Bks.nil), ?_⟩
  refine RegD.gtpur (i := 28) rfl rfl rfl rfl rfl rfl (by kernel_rfl) (Pur.eql rfl rfl) ?_
  refine RegD.tpur (i := 29) rfl rfl rfl rfl (by kernel_rfl) (Pur.pickT rfl rfl) ?_
  refine RegD.tpur (i := 30) rfl rfl rfl rfl (by kernel_rfl) (Pur.mv rfl) ?_
  refine RegD.known (b' := true) 196 rfl (by first | rfl | exact decide_eq_true rfl) ?_
  refine RegD.gtpur (i := 31) rfl rfl rfl rfl rfl rfl (by kernel_rfl) (Pur.mv rfl) ?_
  refine RegD.gtpur (i := 33) rfl rfl rfl rfl rfl rfl (by kernel_rfl) (Pur.mv rfl) ?_
  refine RegD.gtpur (i := 34) rfl rfl rfl rfl rfl rfl (by kernel_rfl) (Pur.mv rfl) ?_
  refine RegD.gtpur (i := 35) rfl rfl rfl rfl rfl rfl (by kernel_rfl) (Pur.idx _ es54 rfl rfl (by omega) (by omega)) ?_
  refine RegD.gtake (i := 36) rfl rfl rfl rfl rfl rfl (by kernel_rfl) (Bks.cons o14_0.blk Bks.nil) (fun H hS => Lod.ld sc3 rfl hS.hd hwk) ?_
  refine RegD.gone (i := 32) (by kernel_rfl) rfl rfl rfl rfl rfl rfl (Does.call rfl (numE_ok _ _)) ?_
  rintro _ H17_8 ⟨rfl, rfl⟩
  refine ⟨fun _ _ => (Bks.cons o14_0.blk Bks.nil), ?_⟩
  refine RegD.gtpur (i := 37) rfl rfl rfl rfl rfl rfl (by kernel_rfl) (Pur.eql rfl rfl) ?_
  refine RegD.tpur (i := 38) rfl rfl rfl rfl (by kernel_rfl) (Pur.pickT rfl rfl) ?_
  refine RegD.tpur (i := 39) rfl rfl rfl rfl (by kernel_rfl) (Pur.asg rfl) ?_
  refine RegD.done (by kernel_rfl) ?_
  refine At.ret rfl Try.func13 rfl ?_
  exact ⟨congrArg Value.bool (decide_eq_true rfl), hE⟩
end Go.Proofs.Ytlfillhffpiffaa
