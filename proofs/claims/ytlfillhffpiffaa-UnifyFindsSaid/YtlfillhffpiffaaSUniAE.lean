/-
  Chapter 10: under the binds both types are one.
-/
import Derived.Test.YtlfillhffpiffaaS1
namespace Go.Proofs.Ytlfillhffpiffaa
set_option linter.unusedSimpArgs false
set_option linter.unusedVariables false
set_option maxRecDepth 8000
set_option maxHeartbeats 1000000
open Go Go.Fx Go.Proofs
namespace FactsUniAE
theorem ag25 : ag Try.prog 25 = some 1 := by kernel_rfl
theorem ag47 : ag Try.prog 47 = some 9 := by kernel_rfl
theorem es22 : esz Try.prog 22 = some 8 := by kernel_rfl
theorem es23 : esz Try.prog 23 = some 9 := by kernel_rfl
theorem fo25_0 : foff Try.prog 25 0 = some 0 := by kernel_rfl
theorem fo28_1 : foff Try.prog 28 1 = some 4 := by kernel_rfl
theorem fo47_0 : foff Try.prog 47 0 = some 0 := by kernel_rfl
theorem fo47_1 : foff Try.prog 47 1 = some 1 := by kernel_rfl
theorem fo47_4 : foff Try.prog 47 4 = some 4 := by kernel_rfl
theorem fo49_0 : foff Try.prog 49 0 = some 0 := by kernel_rfl
theorem fo49_1 : foff Try.prog 49 1 = some 1 := by kernel_rfl
theorem isl22 : isSl Try.prog 22 = true := by kernel_rfl
theorem isl23 : isSl Try.prog 23 = true := by kernel_rfl
theorem mixed : Try.prog.follows .mixedOrders = true := by kernel_rfl
theorem sc23 : sc Try.prog 23 = true := by kernel_rfl
theorem sc3 : sc Try.prog 3 = true := by kernel_rfl
theorem sc4 : sc Try.prog 4 = true := by kernel_rfl
theorem zc25 : zc Try.prog 25 = some [.slice none 0 0] := by kernel_rfl
theorem zc47 : zc Try.prog 47 = some [.int .i64 0, .int .i64 0, .int .i64 0, .int .i64 0, .int .i64 0, .int .i64 0, .int .i64 0, .int .i64 0, .int .i64 0] := by kernel_rfl
end FactsUniAE
open FactsUniAE

def errC (c : Int) : Prop := c = 1001 ∨ c = 1002 ∨ c = 1003
theorem bindU_err {s : Us} {v : Int} {t : Tm} {c : Int} (e : bindU s v t = .error c) : errC c := by
  unfold bindU at e
  split at e
  · cases e; exact .inr (.inl rfl)
  · cases ha : addB (.t v t) s.1 with
    | none => rw [ha] at e; cases e; exact .inr (.inr rfl)
    | some l => rw [ha] at e; cases e
theorem rowsU_err {s : Us} {a b : List Int} {c : Int} (e : rowsU s a b = .error c) : errC c := by
  unfold rowsU at e
  split at e
  · split at e
    · cases e; exact .inr (.inr rfl)
    · split at e
      · cases e; exact .inl rfl
      · split at e
        · cases e
        · cases e; exact .inr (.inr rfl)
  · cases e; exact .inr (.inr rfl)
theorem leafU_err {s : Us} {p q : Tm} {c : Int} (e : leafU s p q = .error c) : errC c := by
  cases p with
  | var v =>
    cases q with
    | var w =>
      simp only [leafU] at e
      split at e
      · cases e
      · exact bindU_err e
    | bas k => exact bindU_err e
    | fn a r b => exact bindU_err e
  | bas k =>
    cases q with
    | var w => exact bindU_err e
    | bas l =>
      simp only [leafU] at e
      split at e
      · cases e
      · cases e; exact .inl rfl
    | fn a r b => cases e; exact .inl rfl
  | fn a r b =>
    cases q with
    | var w => exact bindU_err e
    | bas l => cases e; exact .inl rfl
    | fn a r b => cases e; exact .inl rfl
theorem uniU_err : ∀ (n : Nat) {s : Us} {a b : Tm} {c : Int}, uniU n s a b = some (.error c) → errC c
  | 0, _, _, _, _, h => by cases h
  | n + 1, s, a, b, c, h => by
    cases h1 : tys s.1 a with
    | none => rw [uniU_bad (.inl h1)] at h; cases h; exact .inr (.inr rfl)
    | some p =>
      cases h2 : tys s.1 b with
      | none => rw [uniU_bad (.inr h2)] at h; cases h; exact .inr (.inr rfl)
      | some q =>
        cases hf : isFn p && isFn q with
        | false => rw [uniU_leaf h1 h2 hf] at h; exact leafU_err (by simpa using h)
        | true =>
          cases p with
          | var v => cases hf
          | bas k => cases hf
          | fn f r g =>
            cases q with
            | var v => cases hf
            | bas k => cases hf
            | fn h' r' i =>
              rw [uniU_fn h1 h2] at h
              cases hu : uniU n s f h' with
              | none => rw [hu] at h; cases h
              | some x =>
                rw [hu] at h
                cases x with
                | error c' => cases h; exact uniU_err n hu
                | ok s1 =>
                  dsimp only at h
                  cases hr : rowsU s1 r r' with
                  | error c' => rw [hr] at h; cases h; exact rowsU_err hr
                  | ok s2 => rw [hr] at h; exact uniU_err n h
theorem unf_err {L M : List (List Int)} {f : Int} {r : Except Int (List Bt)} (h : Unf L M f r) : codU r = 0 ∨ codU r = 1000 ∨ errC (codU r) := by
  cases h with
  | no _ => exact .inr (.inl rfl)
  | @yes t u n x h0 h1 ht htz hL hu huz hM hlt hlu hx =>
    cases x with
    | ok s => exact .inl rfl
    | error c => exact .inr (.inr (uniU_err n hx))
theorem unf_ok {L M : List (List Int)} {f : Int} {r : Except Int (List Bt)} (h : Unf L M f r) (hc : codU r = 0) : ∃ Ts, r = .ok Ts := by
  cases h with
  | no _ => cases hc
  | @yes t u n x h0 h1 ht htz hL hu huz hM hlt hlu hx =>
    cases x with
    | ok s => exact ⟨_, rfl⟩
    | error c => have h2 := uniU_err n hx; change c = 0 at hc; unfold errC at h2; omega
def pRow (v : Int) (x : List Int) : Bool := decide (x.getD 0 0 = 3) && decide (x.getD 8 0 = v)
theorem any_row (v : Int) : ∀ (t : Tm) (k : Int), t.ok → (t.enc k).any (pRow v) = occR v t
  | .bas b, k, _ => by cases b <;> rfl
  | .var w, k, _ => rfl
  | .fn a r b, k, h => by
    obtain ⟨r0, r1, r2, r3, r4, rfl⟩ := row_five h.2.1
    simp only [Tm.enc, List.any_append, any_row v a _ h.1, any_row v b _ h.2.2.2, occR]
    have : pRow v (fNode (k + a.sz - 1) (k + a.sz + b.sz - 1) [r0, r1, r2, r3, r4]) = decide (r4 = v) := rfl
    rw [List.any_cons, this]
    simp only [List.any_nil, Bool.or_false, List.getD_cons_zero, List.getD_cons_succ]
    cases occR v a <;> cases occR v b <;> simp
/-- a node has a bind's variable -/
def pBd (b : Bd) (x : List Int) : Bool := if b.isRow = true then pRow b.var x else pVar b.var x
theorem subT_tys {Bs : List Bd} {Ts : List Bt} {t : Tm} {X : List (List Int)} (h : Bs.map pl = Ts.map Bt.pl) (hok : ∀ b ∈ Ts, b.ok) (hX : subT Bs (t.enc 0) = some X) : ∃ p, tys Ts t = some p ∧ X = p.enc 0 := by
  unfold subT at hX
  split at hX
  · rw [typS_tys h hok t] at hX
    cases hp : tys Ts t with
    | none => rw [hp] at hX; cases hX
    | some p => rw [hp] at hX; exact ⟨p, rfl, (Option.some.inj hX).symm⟩
  · cases hX
theorem unf_solves {L M X Y : List (List Int)} {Ts : List Bt} {Bs : List Bd} (hu : Unf L M 40 (.ok Ts)) (h : Bs.map pl = Ts.map Bt.pl) (hX : subT Bs L = some X) (hY : subT Bs M = some Y) : X = Y ∧ ∀ b ∈ Bs, X.any (pBd b) = false := by
  generalize hr : (Except.ok Ts : Except Int (List Bt)) = r at hu
  cases hu with
  | no _ => cases hr
  | @yes t u n x h0 h1 ht htz hL hu huz hM hlt hlu hx =>
    subst hL hM
    cases x with
    | error c => cases hr
    | ok s =>
      cases hr
      obtain ⟨G, _, _⟩ := uniU_good n (good_nil h0 (by decide)) ht hu hlt hlu hx
      obtain ⟨p, hp, rfl⟩ := subT_tys h G.inv.ok hX
      obtain ⟨q, hq, rfl⟩ := subT_tys h G.inv.ok hY
      obtain ⟨rfl, h2, h3⟩ := uniU_one h0 (by decide) ht hu hlt hlu hx hp hq
      refine ⟨rfl, fun b hb => ?_⟩
      have hpo := sub_ok G.inv.ok ht (tys_sub hp).1
      obtain ⟨i, hi, rfl⟩ := List.mem_iff_getElem.1 hb
      have hj : i < s.1.length := by have h5 := congrArg List.length h; rw [List.length_map, List.length_map] at h5; omega
      have hpi := pl_at h hi hj
      have hm := List.getElem_mem hj
      generalize s.1[i] = c at hpi hm
      cases c with
      | t v w =>
        have e1 : Bs[i].isRow = false := congrArg (fun p => p.2.1) hpi
        have e2 : Bs[i].var = v := congrArg (fun p => p.1) hpi
        have : pBd Bs[i] = pVar v := by funext x; unfold pBd; rw [e1, e2]; rfl
        rw [this, any_var]
        exact h2 v (mem_domT hm)
      | r v w =>
        have e1 : Bs[i].isRow = true := congrArg (fun p => p.2.1) hpi
        have e2 : Bs[i].var = v := congrArg (fun p => p.1) hpi
        have : pBd Bs[i] = pRow v := by funext x; unfold pBd; rw [e1, e2]; rfl
        rw [this, any_row v p 0 hpo]
        exact h3 v (mem_domR hm)
theorem unifySolves_law {A B : Option Addr} {ca cb : Nat} {L M : List (List Int)} (hL : Nine L) (hM : Nine M) {H : Heap} (hS : SlT H Is 9 (.slice A L.length ca) L) (hT : SlT H Is 9 (.slice B M.length cb) M) (hl : L.length * 72 ≤ 140737488351232) (hm : M.length * 72 ≤ 140737488351232) :
    Ret Try.prog 15 [Ty A L.length ca, Ty B M.length cb] H (fun v H' => v = .bool true ∧ Ext H H') := by
  obtain ⟨r, hr⟩ := unf_ex 40 hL hM
  refine Ret.of_at (N := 122) Try.call15 Try.func15 rfl rfl rfl ?_
  have hE := Ext.refl H
  refine At.region rfl rfl ?_
  refine Reg.op rfl rfl rfl rfl (Does.box rfl rfl) ?_
  rintro _ H0_0 ⟨rfl, hn0_0⟩
  have z0_0 := hn0_0.size
  replace hE := hE.ext hn0_0.ext
  have o0_0 := hn0_0.own
  refine Reg.op rfl rfl rfl rfl (Does.box rfl rfl) ?_
  rintro _ H0_1 ⟨rfl, hn0_1⟩
  have z0_1 := hn0_1.size
  replace hE := hE.ext hn0_1.ext
  replace o0_0 := o0_0.ext hn0_1.ext
  have o0_1 := hn0_1.own
  refine Reg.pur rfl rfl rfl rfl (Pur.asg rfl) ?_
  refine Reg.nil ?_
  refine At.region rfl rfl ?_
  refine Reg.op rfl rfl rfl rfl (Does.call rfl (awake10_ok _)) ?_
  rintro _ H1_0 ⟨rfl, hE1_0⟩
  have z1_0 := hE1_0.lt
  replace hE := hE.ext hE1_0
  replace o0_0 := o0_0.ext hE1_0
  replace o0_1 := o0_1.ext hE1_0
  refine Reg.pur rfl rfl rfl rfl (Pur.not rfl) ?_
  refine Reg.nil ?_
  refine At.condF rfl rfl rfl ?_
  refine At.region rfl rfl ?_
  refine Reg.lod rfl rfl rfl rfl (Lod.ldn ag25 rfl o0_0.blk (whole rfl) rfl) ?_
  refine Reg.lod rfl rfl rfl rfl (Lod.ldn ag25 rfl o0_1.blk (whole rfl) rfl) ?_
  refine Reg.op rfl rfl rfl rfl (Does.call rfl (unify_ok hL hM (hS.ext hE) (hT.ext hE) (by omega) (by omega) hr)) ?_
  rintro v3_2 H3_2 ⟨hU, hE3_2⟩
  have z3_2 := hE3_2.lt
  replace hE := hE.ext hE3_2
  replace o0_0 := o0_0.ext hE3_2
  replace o0_1 := o0_1.ext hE3_2
  obtain ⟨A2, k2, Bs, sb2, rfl, hSl⟩ := hU.un
  have hE3 := Ext.refl H3_2
  have z_hE3 := hE3.lt
  refine Reg.pur rfl rfl rfl rfl (Pur.mv rfl) ?_
  refine Reg.pur rfl rfl rfl rfl (Pur.ext rfl rfl) ?_
  refine Reg.pur rfl rfl rfl rfl (Pur.ext rfl rfl) ?_
  refine Reg.pur rfl rfl rfl rfl (Pur.asg rfl) ?_
  refine Reg.pur rfl rfl rfl rfl (Pur.asg rfl) ?_
  refine Reg.nil ?_
  refine At.region rfl rfl ?_
  refine Reg.pur rfl rfl rfl rfl (Pur.mv rfl) ?_
  refine Reg.op rfl rfl rfl rfl (Does.call rfl (numE_ok _ _)) ?_
  rintro _ H3_2 ⟨rfl, rfl⟩
  refine Reg.pur rfl rfl rfl rfl (Pur.neq rfl rfl) ?_
  refine Reg.nil ?_
  refine At.cond rfl rfl (fun q24 => ?_) (fun q24 => ?_)
  · first | (simp only [decide_eq_true_eq, decide_eq_false_iff_not, Bool.not_eq_true', Bool.not_eq_false', ne_eq, Decidable.not_not, Bool.not_eq_true, Bool.not_eq_false] at q24) | (dsimp only at q24) | skip
    obtain ⟨c, rfl⟩ : ∃ c, r = .error c := by { cases r with | ok Ts => exact absurd rfl q24 | error c => exact ⟨c, rfl⟩ }
    obtain rfl : Bs = [] := by simpa [bndU] using hSl.pl
    refine At.region rfl rfl ?_
    refine Reg.pur rfl rfl rfl rfl (Pur.mv rfl) ?_
    refine Reg.pur rfl rfl rfl rfl (Pur.lenS isl22 rfl) ?_
    refine Reg.pur rfl rfl rfl rfl (Pur.eql rfl rfl) ?_
    refine Reg.pur rfl rfl rfl rfl (Pur.asg rfl) ?_
    refine Reg.nil ?_
    refine At.ret rfl Try.func15 rfl ?_
    exact ⟨rfl, hE⟩
  first | (simp only [decide_eq_true_eq, decide_eq_false_iff_not, Bool.not_eq_true', Bool.not_eq_false', ne_eq, Decidable.not_not, Bool.not_eq_true, Bool.not_eq_false] at q24) | (dsimp only at q24) | skip
  obtain ⟨Ts, rfl⟩ := unf_ok hr q24
  refine At.region rfl rfl ?_
  refine Reg.pur rfl rfl rfl rfl (Pur.mv rfl) ?_
  refine Reg.lod rfl rfl rfl rfl (Lod.ldn ag25 rfl o0_0.blk (whole rfl) rfl) ?_
  refine Reg.op rfl rfl rfl rfl (Does.call rfl (type_ok (hSl.ext hE3).bds (hS.ext hE) hL hl)) ?_
  rintro v6_2 H6_2 ⟨hE6_2, hT6_2⟩
  have z6_2 := hE6_2.lt
  replace hE := hE.ext hE6_2
  replace o0_0 := o0_0.ext hE6_2
  replace o0_1 := o0_1.ext hE6_2
  replace hE3 := hE3.ext hE6_2
  generalize hX : subT Bs L = X at hT6_2
  obtain ⟨A7, k7, rfl, hg7, hN7, hl7⟩ := hT6_2
  have hgl7 := hg7.lt
  have hs7 := own_sl (wide9 hN7) (by decide) hg7
  have z_hs7 := hs7.lt
  refine Reg.pur rfl rfl rfl rfl (Pur.mv rfl) ?_
  refine Reg.pur rfl rfl rfl rfl (Pur.ext rfl rfl) ?_
  refine Reg.pur rfl rfl rfl rfl (Pur.ext rfl rfl) ?_
  refine Reg.op rfl rfl rfl rfl (Does.alloc zc25) ?_
  rintro _ H6_6 ⟨rfl, hn6_6⟩
  have z6_6 := hn6_6.size
  replace hE := hE.ext hn6_6.ext
  replace o0_0 := o0_0.ext hn6_6.ext
  replace o0_1 := o0_1.ext hn6_6.ext
  replace hE3 := hE3.ext hn6_6.ext
  replace hs7 := hs7.ext hn6_6.ext
  have o6_6 := hn6_6.own
  refine Reg.op0 rfl rfl rfl (Does.stn ag25 rfl rfl (by first | rfl | exact ones_Is _) (by first | rfl | (simp [*]; done)) o6_6 (by first | decide | (simp; done) | (simp; omega) | omega)) ?_
  rintro _ H6_7 hu6_7
  have z6_7 := hu6_7.size
  replace hE := hE.upw hu6_7 (by omega)
  replace o0_0 := o0_0.upw hu6_7 (by omega)
  replace o0_1 := o0_1.upw hu6_7 (by omega)
  replace hE3 := hE3.upw hu6_7 (by omega)
  replace hs7 := hs7.upw hu6_7 (by omega)
  replace o6_6 := hu6_7.own
  first | rw [over (by first | rfl | (simp; done))] at o6_6 | skip
  refine Reg.pur rfl rfl rfl rfl (Pur.asg rfl) ?_
  refine Reg.nil ?_
  refine At.region rfl rfl ?_
  refine Reg.pur rfl rfl rfl rfl (Pur.mv rfl) ?_
  refine Reg.lod rfl rfl rfl rfl (Lod.ldn ag25 rfl o0_1.blk (whole rfl) rfl) ?_
  refine Reg.op rfl rfl rfl rfl (Does.call rfl (type_ok (hSl.ext hE3).bds (hT.ext hE) hM hm)) ?_
  rintro v7_2 H7_2 ⟨hE7_2, hT7_2⟩
  have z7_2 := hE7_2.lt
  replace hE := hE.ext hE7_2
  replace o0_0 := o0_0.ext hE7_2
  replace o0_1 := o0_1.ext hE7_2
  replace hE3 := hE3.ext hE7_2
  replace hs7 := hs7.ext hE7_2
  replace o6_6 := o6_6.ext hE7_2
  generalize hY : subT Bs M = Y at hT7_2
  obtain ⟨A9, k9, rfl, hg9, hN9, hl9⟩ := hT7_2
  have hgl9 := hg9.lt
  have hs9 := own_sl (wide9 hN9) (by decide) hg9
  have z_hs9 := hs9.lt
  refine Reg.pur rfl rfl rfl rfl (Pur.mv rfl) ?_
  refine Reg.pur rfl rfl rfl rfl (Pur.ext rfl rfl) ?_
  refine Reg.pur rfl rfl rfl rfl (Pur.ext rfl rfl) ?_
  refine Reg.op rfl rfl rfl rfl (Does.alloc zc25) ?_
  rintro _ H7_6 ⟨rfl, hn7_6⟩
  have z7_6 := hn7_6.size
  replace hE := hE.ext hn7_6.ext
  replace o0_0 := o0_0.ext hn7_6.ext
  replace o0_1 := o0_1.ext hn7_6.ext
  replace hE3 := hE3.ext hn7_6.ext
  replace hs7 := hs7.ext hn7_6.ext
  replace o6_6 := o6_6.ext hn7_6.ext
  replace hs9 := hs9.ext hn7_6.ext
  have o7_6 := hn7_6.own
  refine Reg.op0 rfl rfl rfl (Does.stn ag25 rfl rfl (by first | rfl | exact ones_Is _) (by first | rfl | (simp [*]; done)) o7_6 (by first | decide | (simp; done) | (simp; omega) | omega)) ?_
  rintro _ H7_7 hu7_7
  have z7_7 := hu7_7.size
  replace hE := hE.upw hu7_7 (by omega)
  replace o0_0 := o0_0.upw hu7_7 (by omega)
  replace o0_1 := o0_1.upw hu7_7 (by omega)
  replace hE3 := hE3.upw hu7_7 (by omega)
  replace hs7 := hs7.upw hu7_7 (by omega)
  replace o6_6 := o6_6.upw hu7_7 (by omega)
  replace hs9 := hs9.upw hu7_7 (by omega)
  replace o7_6 := hu7_7.own
  first | rw [over (by first | rfl | (simp; done))] at o7_6 | skip
  refine Reg.pur rfl rfl rfl rfl (Pur.asg rfl) ?_
  refine Reg.nil ?_
  refine At.region rfl rfl ?_
  refine Reg.pur rfl rfl rfl rfl (Pur.mv rfl) ?_
  refine Reg.op rfl rfl rfl rfl (Does.call rfl (numE_ok _ _)) ?_
  rintro _ H7_7 ⟨rfl, rfl⟩
  refine Reg.pur rfl rfl rfl rfl (Pur.neq rfl rfl) ?_
  refine Reg.pur rfl rfl rfl rfl (Pur.mv rfl) ?_
  refine Reg.case 43 rfl (fun q43 => ?_) (fun q43 => ?_)
  · first | (simp only [decide_eq_true_eq, decide_eq_false_iff_not, Bool.not_eq_true', Bool.not_eq_false', ne_eq, Decidable.not_not, Bool.not_eq_true, Bool.not_eq_false] at q43) | (dsimp only at q43) | skip
    refine Reg.skip rfl rfl rfl rfl rfl rfl rfl ?_
    refine Reg.skip rfl rfl rfl rfl rfl rfl rfl ?_
    refine Reg.skip rfl rfl rfl rfl rfl rfl rfl ?_
    refine Reg.pur rfl rfl rfl rfl (Pur.pickT rfl rfl) ?_
    refine Reg.nil ?_
    refine At.condT rfl rfl rfl ?_
    refine At.region rfl rfl ?_
    refine Reg.pur rfl rfl rfl rfl (Pur.mv rfl) ?_
    refine Reg.op rfl rfl rfl rfl (Does.call rfl (numE_ok _ _)) ?_
    rintro _ H7_7 ⟨rfl, rfl⟩
    refine Reg.pur rfl rfl rfl rfl (Pur.eql rfl rfl) ?_
    refine Reg.pur rfl rfl rfl rfl (Pur.mv rfl) ?_
    refine Reg.case 51 rfl (fun q51 => ?_) (fun q51 => ?_)
    · first | (simp only [decide_eq_true_eq, decide_eq_false_iff_not, Bool.not_eq_true', Bool.not_eq_false', ne_eq, Decidable.not_not, Bool.not_eq_true, Bool.not_eq_false] at q51) | (dsimp only at q51) | skip
      refine Reg.skip rfl rfl rfl rfl rfl rfl rfl ?_
      refine Reg.skip rfl rfl rfl rfl rfl rfl rfl ?_
      refine Reg.skip rfl rfl rfl rfl rfl rfl rfl ?_
      refine Reg.pur rfl rfl rfl rfl (Pur.pickT rfl rfl) ?_
      refine Reg.pur rfl rfl rfl rfl (Pur.asg rfl) ?_
      refine Reg.nil ?_
      refine At.ret rfl Try.func15 rfl ?_
      refine ⟨?_, hE⟩
      cases X <;> cases Y <;> simp_all [ce]
    first | (simp only [decide_eq_true_eq, decide_eq_false_iff_not, Bool.not_eq_true', Bool.not_eq_false', ne_eq, Decidable.not_not, Bool.not_eq_true, Bool.not_eq_false] at q51) | (dsimp only at q51) | skip
    refine Reg.gpur rfl rfl rfl rfl rfl rfl (Pur.mv rfl) ?_
    refine Reg.gop rfl rfl rfl rfl rfl rfl (Does.call rfl (numE_ok _ _)) ?_
    rintro _ H7_7 ⟨rfl, rfl⟩
    refine Reg.gpur rfl rfl rfl rfl rfl rfl (Pur.eql rfl rfl) ?_
    refine Reg.pur rfl rfl rfl rfl (Pur.pickF rfl rfl) ?_
    refine Reg.pur rfl rfl rfl rfl (Pur.asg rfl) ?_
    refine Reg.nil ?_
    refine At.ret rfl Try.func15 rfl ?_
    refine ⟨?_, hE⟩
    cases X <;> cases Y <;> simp_all [ce]
  first | (simp only [decide_eq_true_eq, decide_eq_false_iff_not, Bool.not_eq_true', Bool.not_eq_false', ne_eq, Decidable.not_not, Bool.not_eq_true, Bool.not_eq_false] at q43) | (dsimp only at q43) | skip
  refine Reg.gpur rfl rfl rfl rfl rfl rfl (Pur.mv rfl) ?_
  refine Reg.gop rfl rfl rfl rfl rfl rfl (Does.call rfl (numE_ok _ _)) ?_
  rintro _ H7_7 ⟨rfl, rfl⟩
  refine Reg.gpur rfl rfl rfl rfl rfl rfl (Pur.neq rfl rfl) ?_
  refine Reg.pur rfl rfl rfl rfl (Pur.pickF rfl rfl) ?_
  refine Reg.nil ?_
  refine At.cond rfl rfl (fun q47 => ?_) (fun q47 => ?_)
  · first | (simp only [decide_eq_true_eq, decide_eq_false_iff_not, Bool.not_eq_true', Bool.not_eq_false', ne_eq, Decidable.not_not, Bool.not_eq_true, Bool.not_eq_false] at q47) | (dsimp only at q47) | skip
    refine At.region rfl rfl ?_
    refine Reg.pur rfl rfl rfl rfl (Pur.mv rfl) ?_
    refine Reg.op rfl rfl rfl rfl (Does.call rfl (numE_ok _ _)) ?_
    rintro _ H7_7 ⟨rfl, rfl⟩
    refine Reg.pur rfl rfl rfl rfl (Pur.eql rfl rfl) ?_
    refine Reg.pur rfl rfl rfl rfl (Pur.mv rfl) ?_
    refine Reg.case 51 rfl (fun q51 => ?_) (fun q51 => ?_)
    · first | (simp only [decide_eq_true_eq, decide_eq_false_iff_not, Bool.not_eq_true', Bool.not_eq_false', ne_eq, Decidable.not_not, Bool.not_eq_true, Bool.not_eq_false] at q51) | (dsimp only at q51) | skip
      refine Reg.skip rfl rfl rfl rfl rfl rfl rfl ?_
      refine Reg.skip rfl rfl rfl rfl rfl rfl rfl ?_
      refine Reg.skip rfl rfl rfl rfl rfl rfl rfl ?_
      refine Reg.pur rfl rfl rfl rfl (Pur.pickT rfl rfl) ?_
      refine Reg.pur rfl rfl rfl rfl (Pur.asg rfl) ?_
      refine Reg.nil ?_
      refine At.ret rfl Try.func15 rfl ?_
      refine ⟨?_, hE⟩
      cases X <;> cases Y <;> simp_all [ce]
    first | (simp only [decide_eq_true_eq, decide_eq_false_iff_not, Bool.not_eq_true', Bool.not_eq_false', ne_eq, Decidable.not_not, Bool.not_eq_true, Bool.not_eq_false] at q51) | (dsimp only at q51) | skip
    refine Reg.gpur rfl rfl rfl rfl rfl rfl (Pur.mv rfl) ?_
    refine Reg.gop rfl rfl rfl rfl rfl rfl (Does.call rfl (numE_ok _ _)) ?_
    rintro _ H7_7 ⟨rfl, rfl⟩
    refine Reg.gpur rfl rfl rfl rfl rfl rfl (Pur.eql rfl rfl) ?_
    refine Reg.pur rfl rfl rfl rfl (Pur.pickF rfl rfl) ?_
    refine Reg.pur rfl rfl rfl rfl (Pur.asg rfl) ?_
    refine Reg.nil ?_
    refine At.ret rfl Try.func15 rfl ?_
    refine ⟨?_, hE⟩
    cases X <;> cases Y <;> simp_all [ce]
  first | (simp only [decide_eq_true_eq, decide_eq_false_iff_not, Bool.not_eq_true', Bool.not_eq_false', ne_eq, Decidable.not_not, Bool.not_eq_true, Bool.not_eq_false] at q47) | (dsimp only at q47) | skip
  obtain ⟨X1, rfl⟩ : ∃ X1, X = some X1 := by { cases X with | none => cases q43 | some X1 => exact ⟨X1, rfl⟩ }
  obtain ⟨Y1, rfl⟩ : ∃ Y1, Y = some Y1 := by { cases Y with | none => cases q47 | some Y1 => exact ⟨Y1, rfl⟩ }
  obtain ⟨rfl, hno⟩ := unf_solves hr hSl.pl hX hY
  refine At.region rfl rfl ?_
  refine Reg.lod rfl rfl rfl rfl (Lod.ldn ag25 rfl o6_6.blk (whole rfl) rfl) ?_
  refine Reg.lod rfl rfl rfl rfl (Lod.ldn ag25 rfl o7_6.blk (whole rfl) rfl) ?_
  refine Reg.op rfl rfl rfl rfl (Does.call rfl (sameType_ok hN7 hN9 hs7 hs9 (by omega))) ?_
  rintro _ H10_2 ⟨rfl, hE10_2⟩
  have z10_2 := hE10_2.lt
  replace hE := hE.ext hE10_2
  replace o0_0 := o0_0.ext hE10_2
  replace o0_1 := o0_1.ext hE10_2
  replace hE3 := hE3.ext hE10_2
  replace hs7 := hs7.ext hE10_2
  replace o6_6 := o6_6.ext hE10_2
  replace hs9 := hs9.ext hE10_2
  replace o7_6 := o7_6.ext hE10_2
  refine Reg.pur rfl rfl rfl rfl (Pur.not rfl) ?_
  refine Reg.nil ?_
  refine At.condF rfl rfl (by simp) ?_
  generalize hH12 : H10_2 = H12 at *
  have hSlF := hSl.ext hE3
  have hBl := hSl.len
  have hob0 := hSlF.lt
  refine At.region rfl rfl ?_
  refine Reg.pur rfl rfl rfl rfl (Pur.asg rfl) ?_
  refine Reg.nil ?_
  refine At.loop (σ := Nat) (fun i => [(11, I i), (5, .slice A2 Bs.length k2), (7, ptr H6_2.size 0)]) (fun i H' => i ≤ Bs.length ∧ Ext H12 H') (fun i => Bs.length - i) 0 rfl ⟨rfl, rfl, rfl, trivial⟩ ⟨by omega, Ext.refl _⟩ ?_
  rintro i H3 ⟨hi, hEi⟩ ih
  have hzi := hEi.1
  have z_hEi := hEi.lt
  refine At.region rfl rfl ?_
  refine Reg.pur rfl rfl rfl rfl (Pur.mv rfl) ?_
  refine Reg.pur rfl rfl rfl rfl (Pur.mv rfl) ?_
  refine Reg.pur rfl rfl rfl rfl (Pur.lenS isl22 rfl) ?_
  refine Reg.pur rfl rfl rfl rfl (Pur.lss rfl rfl) ?_
  refine Reg.nil ?_
  refine At.cond rfl rfl (fun q63 => ?_) (fun q63 => ?_)
  · first | (simp only [decide_eq_true_eq, decide_eq_false_iff_not, Bool.not_eq_true', Bool.not_eq_false', ne_eq, Decidable.not_not, Bool.not_eq_true, Bool.not_eq_false] at q63) | (dsimp only at q63) | skip
    refine At.region rfl rfl ?_
    refine Reg.pur rfl rfl rfl rfl (Pur.asg rfl) ?_
    refine Reg.nil ?_
    refine At.loop (σ := Nat) (fun j => [(12, I j), (11, I i), (5, .slice A2 Bs.length k2), (7, ptr H6_2.size 0)]) (fun j H' => j ≤ (Option.getD (some X1) []).length ∧ Ext H12 H') (fun j => (Option.getD (some X1) []).length - j) 0 rfl ⟨rfl, rfl, rfl, rfl, trivial⟩ ⟨by omega, hEi⟩ ?_
    clear hEi
    rintro j H4 ⟨hj, hEj⟩ ihj
    have z_hEj := hEj.lt
    refine At.region rfl rfl ?_
    refine Reg.pur rfl rfl rfl rfl (Pur.mv rfl) ?_
    refine Reg.pur rfl rfl rfl rfl (Pur.fld _ fo25_0 rfl) ?_
    refine Reg.lod rfl rfl rfl rfl (Lod.ld sc23 rfl (o6_6.blk.ext hEj) rfl) ?_
    refine Reg.pur rfl rfl rfl rfl (Pur.lenS isl23 rfl) ?_
    refine Reg.pur rfl rfl rfl rfl (Pur.lss rfl rfl) ?_
    refine Reg.nil ?_
    refine At.cond rfl rfl (fun q70 => ?_) (fun q70 => ?_)
    · first | (simp only [decide_eq_true_eq, decide_eq_false_iff_not, Bool.not_eq_true', Bool.not_eq_false', ne_eq, Decidable.not_not, Bool.not_eq_true, Bool.not_eq_false] at q70) | (dsimp only at q70) | skip
      have hlt : j < X1.length := by { change (j : Int) < (X1.length : Nat) at q70; omega }
      have hib : i < Bs.length := by omega
      have hN7' : Nine X1 := hN7
      have hs7' : SlT H12 Is 9 (.slice A7 X1.length k7) X1 := hs7
      obtain ⟨b1, o1, c1, rfl, hB1, hd1, h91⟩ := sl_at (wide9 hN7') (hs7'.ext hEj) hlt
      have h9n := hN7' _ (List.getElem_mem hlt)
      obtain ⟨g, c, rfl, hTg, hc, _⟩ := hSlF.blk (by omega)
      have hdi := row_rd hSlF.wide hib hc
      have hgB := hTg.blk.ext hEj
      have hf := List.any_eq_false.1 (hno _ (List.getElem_mem hib)) _ (List.getElem_mem hlt)
      have z_hgB := hgB.lt
      refine At.region rfl rfl ?_
      refine Reg.pur rfl rfl rfl rfl (Pur.fld _ fo25_0 rfl) ?_
      refine Reg.lod rfl rfl rfl rfl (Lod.ld sc23 rfl (o6_6.blk.ext hEj) rfl) ?_
      refine Reg.pur rfl rfl rfl rfl (Pur.mv rfl) ?_
      refine Reg.pur rfl rfl rfl rfl (Pur.idx _ es23 rfl rfl (by omega) (by omega)) ?_
      refine Reg.lod rfl rfl rfl rfl (Lod.ldn ag47 rfl hB1 hd1 h91) ?_
      refine Reg.op rfl rfl rfl rfl (Does.alloc zc47) ?_
      rintro _ H18_5 ⟨rfl, hn18_5⟩
      have z18_5 := hn18_5.size
      replace hEj := hEj.ext hn18_5.ext
      replace hgB := hgB.ext hn18_5.ext
      have o18_5 := hn18_5.own
      refine Reg.op0 rfl rfl rfl (Does.stn ag47 rfl rfl (ones_Is _) h91 o18_5 (Nat.le_refl _)) ?_
      rintro _ H18_6 hu18_6
      have z18_6 := hu18_6.size
      replace hEj := hEj.upw hu18_6 (by omega)
      replace hgB := hgB.upw hu18_6 (by omega)
      replace o18_5 := hu18_6.own
      first | rw [over (by first | rfl | (simp; done))] at o18_5 | skip
      replace o18_5 := o18_5.of (c' := Is X1[j]) (by simp)
      refine Reg.nil ?_
      refine At.drawE ((Bks.cons hgB.blk (Bks.cons o18_5.blk Bks.nil))) [] mixed rfl rfl ?_
      refine RegD.tpur (i := 0) rfl rfl rfl rfl (by kernel_rfl) (Pur.mv rfl) ?_
      refine RegD.tpur (i := 1) rfl rfl rfl rfl (by kernel_rfl) (Pur.mv rfl) ?_
      refine RegD.tpur (i := 2) rfl rfl rfl rfl (by kernel_rfl) (Pur.idx _ es22 rfl rfl (by omega) (by omega)) ?_
      refine RegD.tpur (i := 3) rfl rfl rfl rfl (by kernel_rfl) (Pur.fld _ fo49_1 rfl) ?_
      refine RegD.take (i := 4) rfl rfl rfl rfl (by kernel_rfl) (Bks.cons hgB.blk (Bks.cons o18_5.blk Bks.nil)) (fun H hS => Lod.ld sc4 rfl hS.hd (by rw [Int.toNat_natCast, Nat.zero_add]; exact at_tk hdi (j := 1) (by decide) rfl)) ?_
      refine RegD.tpur (i := 5) rfl rfl rfl rfl (by kernel_rfl) (Pur.not rfl) ?_
      refine RegD.tpur (i := 6) rfl rfl rfl rfl (by kernel_rfl) (Pur.mv rfl) ?_
      refine RegD.case 84 rfl (fun q84 => ?_) (fun q84 => ?_)
      · first | (simp only [decide_eq_true_eq, decide_eq_false_iff_not, Bool.not_eq_true', Bool.not_eq_false', ne_eq, Decidable.not_not, Bool.not_eq_true, Bool.not_eq_false] at q84) | (dsimp only at q84) | skip
        refine RegD.gtpur (i := 7) rfl rfl rfl rfl rfl rfl (by kernel_rfl) (Pur.fld _ fo47_0 rfl) ?_
        refine RegD.gtake (i := 8) rfl rfl rfl rfl rfl rfl (by kernel_rfl) (Bks.cons hgB.blk (Bks.cons o18_5.blk Bks.nil)) (fun H hS => Lod.ld sc3 rfl hS.tl.hd (show _ = some (I (X1[j].getD 0 0)) from at_Is (by rw [h9n]; decide))) ?_
        refine RegD.gtpur (i := 9) rfl rfl rfl rfl rfl rfl (by kernel_rfl) (Pur.eql rfl rfl) ?_
        refine RegD.tpur (i := 10) rfl rfl rfl rfl (by kernel_rfl) (Pur.pickT rfl rfl) ?_
        refine RegD.tpur (i := 11) rfl rfl rfl rfl (by kernel_rfl) (Pur.mv rfl) ?_
        refine RegD.case 89 rfl (fun q89 => ?_) (fun q89 => ?_)
        · first | (simp only [decide_eq_true_eq, decide_eq_false_iff_not, Bool.not_eq_true', Bool.not_eq_false', ne_eq, Decidable.not_not, Bool.not_eq_true, Bool.not_eq_false] at q89) | (dsimp only at q89) | skip
          refine RegD.gtpur (i := 12) rfl rfl rfl rfl rfl rfl (by kernel_rfl) (Pur.fld _ fo47_1 rfl) ?_
          refine RegD.gtake (i := 13) rfl rfl rfl rfl rfl rfl (by kernel_rfl) (Bks.cons hgB.blk (Bks.cons o18_5.blk Bks.nil)) (fun H hS => Lod.ld sc3 rfl hS.tl.hd (show _ = some (I (X1[j].getD 1 0)) from at_Is (by rw [h9n]; decide))) ?_
          refine RegD.gtpur (i := 14) rfl rfl rfl rfl rfl rfl (by kernel_rfl) (Pur.mv rfl) ?_
          refine RegD.gtpur (i := 15) rfl rfl rfl rfl rfl rfl (by kernel_rfl) (Pur.mv rfl) ?_
          refine RegD.gtpur (i := 16) rfl rfl rfl rfl rfl rfl (by kernel_rfl) (Pur.idx _ es22 rfl rfl (by omega) (by omega)) ?_
          refine RegD.gtpur (i := 17) rfl rfl rfl rfl rfl rfl (by kernel_rfl) (Pur.fld _ fo49_0 rfl) ?_
          refine RegD.gtake (i := 18) rfl rfl rfl rfl rfl rfl (by kernel_rfl) (Bks.cons hgB.blk (Bks.cons o18_5.blk Bks.nil)) (fun H hS => Lod.ld sc3 rfl hS.hd (by rw [Int.toNat_natCast, Nat.zero_add]; exact at_tk hdi (j := 0) (by decide) rfl)) ?_
          refine RegD.gtpur (i := 19) rfl rfl rfl rfl rfl rfl (by kernel_rfl) (Pur.eql rfl rfl) ?_
          refine RegD.tpur (i := 20) rfl rfl rfl rfl (by kernel_rfl) (Pur.pickT rfl rfl) ?_
          refine RegD.tpur (i := 21) rfl rfl rfl rfl (by kernel_rfl) (Pur.mv rfl) ?_
          refine RegD.case 99 rfl (fun q99 => ?_) (fun q99 => ?_)
          · first | (simp only [decide_eq_true_eq, decide_eq_false_iff_not, Bool.not_eq_true', Bool.not_eq_false', ne_eq, Decidable.not_not, Bool.not_eq_true, Bool.not_eq_false] at q99) | (dsimp only at q99) | skip
            refine RegD.skip (i := 22) rfl rfl rfl rfl rfl rfl rfl (by kernel_rfl) ?_
            refine RegD.skip (i := 23) rfl rfl rfl rfl rfl rfl rfl (by kernel_rfl) ?_
            refine RegD.skip (i := 24) rfl rfl rfl rfl rfl rfl rfl (by kernel_rfl) ?_
            refine RegD.skip (i := 25) rfl rfl rfl rfl rfl rfl rfl (by kernel_rfl) ?_
            refine RegD.skip (i := 26) rfl rfl rfl rfl rfl rfl rfl (by kernel_rfl) ?_
            refine RegD.skip (i := 27) rfl rfl rfl rfl rfl rfl rfl (by kernel_rfl) ?_
            refine RegD.skipU (i := 28) rfl rfl rfl rfl rfl rfl (by kernel_rfl) ?_
            refine RegD.skipU (i := 29) rfl rfl rfl rfl rfl rfl (by kernel_rfl) ?_
            refine RegD.skipU (i := 30) rfl rfl rfl rfl rfl rfl (by kernel_rfl) ?_
            refine RegD.skip (i := 31) rfl rfl rfl rfl rfl rfl rfl (by kernel_rfl) ?_
            refine RegD.skip (i := 32) rfl rfl rfl rfl rfl rfl rfl (by kernel_rfl) ?_
            refine RegD.skipU (i := 33) rfl rfl rfl rfl rfl rfl (by kernel_rfl) ?_
            refine RegD.skipU (i := 34) rfl rfl rfl rfl rfl rfl (by kernel_rfl) ?_
            refine RegD.skipU (i := 35) rfl rfl rfl rfl rfl rfl (by kernel_rfl) ?_
            refine RegD.skipU (i := 36) rfl rfl rfl rfl rfl rfl (by kernel_rfl) ?_
            refine RegD.skipU (i := 37) rfl rfl rfl rfl rfl rfl (by kernel_rfl) ?_
            refine RegD.skipU (i := 38) rfl rfl rfl rfl rfl rfl (by kernel_rfl) ?_
            refine RegD.skipU (i := 39) rfl rfl rfl rfl rfl rfl (by kernel_rfl) ?_
            refine RegD.skipU (i := 40) rfl rfl rfl rfl rfl rfl (by kernel_rfl) ?_
            refine RegD.skipU (i := 41) rfl rfl rfl rfl rfl rfl (by kernel_rfl) ?_
            refine RegD.skip (i := 42) rfl rfl rfl rfl rfl rfl rfl (by kernel_rfl) ?_
            refine RegD.tpur (i := 43) rfl rfl rfl rfl (by kernel_rfl) (Pur.pickT rfl rfl) ?_
            refine RegD.done (by kernel_rfl) ?_
            refine At.condT rfl rfl rfl ?_
            refine At.region rfl rfl ?_
            refine Reg.pur rfl rfl rfl rfl (Pur.asg rfl) ?_
            refine Reg.nil ?_
            refine At.ret rfl Try.func15 rfl ?_
            exact absurd (by unfold pBd pVar pRow; simp_all) hf
          first | (simp only [decide_eq_true_eq, decide_eq_false_iff_not, Bool.not_eq_true', Bool.not_eq_false', ne_eq, Decidable.not_not, Bool.not_eq_true, Bool.not_eq_false] at q99) | (dsimp only at q99) | skip
          refine RegD.gtpur (i := 22) rfl rfl rfl rfl rfl rfl (by kernel_rfl) (Pur.mv rfl) ?_
          refine RegD.gtpur (i := 23) rfl rfl rfl rfl rfl rfl (by kernel_rfl) (Pur.mv rfl) ?_
          refine RegD.gtpur (i := 24) rfl rfl rfl rfl rfl rfl (by kernel_rfl) (Pur.idx _ es22 rfl rfl (by omega) (by omega)) ?_
          refine RegD.gtpur (i := 25) rfl rfl rfl rfl rfl rfl (by kernel_rfl) (Pur.fld _ fo49_1 rfl) ?_
          refine RegD.gtake (i := 26) rfl rfl rfl rfl rfl rfl (by kernel_rfl) (Bks.cons hgB.blk (Bks.cons o18_5.blk Bks.nil)) (fun H hS => Lod.ld sc4 rfl hS.hd (by rw [Int.toNat_natCast, Nat.zero_add]; exact at_tk hdi (j := 1) (by decide) rfl)) ?_
          refine RegD.gtpur (i := 27) rfl rfl rfl rfl rfl rfl (by kernel_rfl) (Pur.mv rfl) ?_
          refine RegD.case 105 rfl (fun q105 => ?_) (fun q105 => ?_)
          · first | (simp only [decide_eq_true_eq, decide_eq_false_iff_not, Bool.not_eq_true', Bool.not_eq_false', ne_eq, Decidable.not_not, Bool.not_eq_true, Bool.not_eq_false] at q105) | (dsimp only at q105) | skip
            refine RegD.gtpur (i := 28) rfl rfl rfl rfl rfl rfl (by kernel_rfl) (Pur.fld _ fo47_0 rfl) ?_
            refine RegD.gtake (i := 29) rfl rfl rfl rfl rfl rfl (by kernel_rfl) (Bks.cons hgB.blk (Bks.cons o18_5.blk Bks.nil)) (fun H hS => Lod.ld sc3 rfl hS.tl.hd (show _ = some (I (X1[j].getD 0 0)) from at_Is (by rw [h9n]; decide))) ?_
            refine RegD.gtpur (i := 30) rfl rfl rfl rfl rfl rfl (by kernel_rfl) (Pur.eql rfl rfl) ?_
            refine RegD.gtpur (i := 31) rfl rfl rfl rfl rfl rfl (by kernel_rfl) (Pur.pickT rfl rfl) ?_
            refine RegD.gtpur (i := 32) rfl rfl rfl rfl rfl rfl (by kernel_rfl) (Pur.mv rfl) ?_
            refine RegD.case 110 rfl (fun q110 => ?_) (fun q110 => ?_)
            · first | (simp only [decide_eq_true_eq, decide_eq_false_iff_not, Bool.not_eq_true', Bool.not_eq_false', ne_eq, Decidable.not_not, Bool.not_eq_true, Bool.not_eq_false] at q110) | (dsimp only at q110) | skip
              refine RegD.gtpur (i := 33) rfl rfl rfl rfl rfl rfl (by kernel_rfl) (Pur.fld _ fo47_4 rfl) ?_
              refine RegD.gtpur (i := 34) rfl rfl rfl rfl rfl rfl (by kernel_rfl) (Pur.fld _ fo28_1 rfl) ?_
              refine RegD.gtake (i := 35) rfl rfl rfl rfl rfl rfl (by kernel_rfl) (Bks.cons hgB.blk (Bks.cons o18_5.blk Bks.nil)) (fun H hS => Lod.ld sc3 rfl hS.tl.hd (show _ = some (I (X1[j].getD 8 0)) from at_Is (by rw [h9n]; decide))) ?_
              refine RegD.gtpur (i := 36) rfl rfl rfl rfl rfl rfl (by kernel_rfl) (Pur.mv rfl) ?_
              refine RegD.gtpur (i := 37) rfl rfl rfl rfl rfl rfl (by kernel_rfl) (Pur.mv rfl) ?_
              refine RegD.gtpur (i := 38) rfl rfl rfl rfl rfl rfl (by kernel_rfl) (Pur.idx _ es22 rfl rfl (by omega) (by omega)) ?_
              refine RegD.gtpur (i := 39) rfl rfl rfl rfl rfl rfl (by kernel_rfl) (Pur.fld _ fo49_0 rfl) ?_
              refine RegD.gtake (i := 40) rfl rfl rfl rfl rfl rfl (by kernel_rfl) (Bks.cons hgB.blk (Bks.cons o18_5.blk Bks.nil)) (fun H hS => Lod.ld sc3 rfl hS.hd (by rw [Int.toNat_natCast, Nat.zero_add]; exact at_tk hdi (j := 0) (by decide) rfl)) ?_
              refine RegD.gtpur (i := 41) rfl rfl rfl rfl rfl rfl (by kernel_rfl) (Pur.eql rfl rfl) ?_
              refine RegD.gtpur (i := 42) rfl rfl rfl rfl rfl rfl (by kernel_rfl) (Pur.pickT rfl rfl) ?_
              refine RegD.tpur (i := 43) rfl rfl rfl rfl (by kernel_rfl) (Pur.pickF rfl rfl) ?_
              refine RegD.done (by kernel_rfl) ?_
              refine At.cond rfl rfl (fun q121 => ?_) (fun q121 => ?_)
              · first | (simp only [decide_eq_true_eq, decide_eq_false_iff_not, Bool.not_eq_true', Bool.not_eq_false', ne_eq, Decidable.not_not, Bool.not_eq_true, Bool.not_eq_false] at q121) | (dsimp only at q121) | skip
                refine At.region rfl rfl ?_
                refine Reg.pur rfl rfl rfl rfl (Pur.asg rfl) ?_
                refine Reg.nil ?_
                refine At.ret rfl Try.func15 rfl ?_
                exact absurd (by unfold pBd pVar pRow; simp_all) hf
              first | (simp only [decide_eq_true_eq, decide_eq_false_iff_not, Bool.not_eq_true', Bool.not_eq_false', ne_eq, Decidable.not_not, Bool.not_eq_true, Bool.not_eq_false] at q121) | (dsimp only at q121) | skip
              refine At.region rfl rfl ?_
              refine Reg.pur rfl rfl rfl rfl (Pur.mv rfl) ?_
              first | refine Reg.pur rfl rfl rfl rfl (Pur.add64 rfl rfl (by omega)) ?_ | refine Reg.pur rfl rfl rfl rfl (Pur.add64 rfl rfl (by assumption)) ?_ | refine Reg.pur rfl rfl rfl rfl (Pur.add rfl rfl) ?_
              refine Reg.pur rfl rfl rfl rfl (Pur.asg rfl) ?_
              refine Reg.nil ?_
              exact At.via (ihj (j + 1) _ ⟨by omega, hEj⟩ (by omega)) ⟨rfl, rfl, rfl, rfl, trivial⟩
            first | (simp only [decide_eq_true_eq, decide_eq_false_iff_not, Bool.not_eq_true', Bool.not_eq_false', ne_eq, Decidable.not_not, Bool.not_eq_true, Bool.not_eq_false] at q110) | (dsimp only at q110) | skip
            refine RegD.skip (i := 33) rfl rfl rfl rfl rfl rfl rfl (by kernel_rfl) ?_
            refine RegD.skip (i := 34) rfl rfl rfl rfl rfl rfl rfl (by kernel_rfl) ?_
            refine RegD.skip (i := 35) rfl rfl rfl rfl rfl rfl rfl (by kernel_rfl) ?_
            refine RegD.skip (i := 36) rfl rfl rfl rfl rfl rfl rfl (by kernel_rfl) ?_
            refine RegD.skip (i := 37) rfl rfl rfl rfl rfl rfl rfl (by kernel_rfl) ?_
            refine RegD.skip (i := 38) rfl rfl rfl rfl rfl rfl rfl (by kernel_rfl) ?_
            refine RegD.skip (i := 39) rfl rfl rfl rfl rfl rfl rfl (by kernel_rfl) ?_
            refine RegD.skip (i := 40) rfl rfl rfl rfl rfl rfl rfl (by kernel_rfl) ?_
            refine RegD.skip (i := 41) rfl rfl rfl rfl rfl rfl rfl (by kernel_rfl) ?_
            refine RegD.gtpur (i := 42) rfl rfl rfl rfl rfl rfl (by kernel_rfl) (Pur.pickF rfl rfl) ?_
            refine RegD.tpur (i := 43) rfl rfl rfl rfl (by kernel_rfl) (Pur.pickF rfl rfl) ?_
            refine RegD.done (by kernel_rfl) ?_
            refine At.condF rfl rfl rfl ?_
            refine At.region rfl rfl ?_
            refine Reg.pur rfl rfl rfl rfl (Pur.mv rfl) ?_
            first | refine Reg.pur rfl rfl rfl rfl (Pur.add64 rfl rfl (by omega)) ?_ | refine Reg.pur rfl rfl rfl rfl (Pur.add64 rfl rfl (by assumption)) ?_ | refine Reg.pur rfl rfl rfl rfl (Pur.add rfl rfl) ?_
            refine Reg.pur rfl rfl rfl rfl (Pur.asg rfl) ?_
            refine Reg.nil ?_
            exact At.via (ihj (j + 1) _ ⟨by omega, hEj⟩ (by omega)) ⟨rfl, rfl, rfl, rfl, trivial⟩
          first | (simp only [decide_eq_true_eq, decide_eq_false_iff_not, Bool.not_eq_true', Bool.not_eq_false', ne_eq, Decidable.not_not, Bool.not_eq_true, Bool.not_eq_false] at q105) | (dsimp only at q105) | skip
          refine RegD.skip (i := 28) rfl rfl rfl rfl rfl rfl rfl (by kernel_rfl) ?_
          refine RegD.skip (i := 29) rfl rfl rfl rfl rfl rfl rfl (by kernel_rfl) ?_
          refine RegD.skip (i := 30) rfl rfl rfl rfl rfl rfl rfl (by kernel_rfl) ?_
          refine RegD.gtpur (i := 31) rfl rfl rfl rfl rfl rfl (by kernel_rfl) (Pur.pickF rfl rfl) ?_
          refine RegD.gtpur (i := 32) rfl rfl rfl rfl rfl rfl (by kernel_rfl) (Pur.mv rfl) ?_
          refine RegD.skip (i := 33) rfl rfl rfl rfl rfl rfl rfl (by kernel_rfl) ?_
          refine RegD.skip (i := 34) rfl rfl rfl rfl rfl rfl rfl (by kernel_rfl) ?_
          refine RegD.skip (i := 35) rfl rfl rfl rfl rfl rfl rfl (by kernel_rfl) ?_
          refine RegD.skip (i := 36) rfl rfl rfl rfl rfl rfl rfl (by kernel_rfl) ?_
          refine RegD.skip (i := 37) rfl rfl rfl rfl rfl rfl rfl (by kernel_rfl) ?_
          refine RegD.skip (i := 38) rfl rfl rfl rfl rfl rfl rfl (by kernel_rfl) ?_
          refine RegD.skip (i := 39) rfl rfl rfl rfl rfl rfl rfl (by kernel_rfl) ?_
          refine RegD.skip (i := 40) rfl rfl rfl rfl rfl rfl rfl (by kernel_rfl) ?_
          refine RegD.skip (i := 41) rfl rfl rfl rfl rfl rfl rfl (by kernel_rfl) ?_
          refine RegD.gtpur (i := 42) rfl rfl rfl rfl rfl rfl (by kernel_rfl) (Pur.pickF rfl rfl) ?_
          refine RegD.tpur (i := 43) rfl rfl rfl rfl (by kernel_rfl) (Pur.pickF rfl rfl) ?_
          refine RegD.done (by kernel_rfl) ?_
          refine At.condF rfl rfl rfl ?_
          refine At.region rfl rfl ?_
          refine Reg.pur rfl rfl rfl rfl (Pur.mv rfl) ?_
          first | refine Reg.pur rfl rfl rfl rfl (Pur.add64 rfl rfl (by omega)) ?_ | refine Reg.pur rfl rfl rfl rfl (Pur.add64 rfl rfl (by assumption)) ?_ | refine Reg.pur rfl rfl rfl rfl (Pur.add rfl rfl) ?_
          refine Reg.pur rfl rfl rfl rfl (Pur.asg rfl) ?_
          refine Reg.nil ?_
          exact At.via (ihj (j + 1) _ ⟨by omega, hEj⟩ (by omega)) ⟨rfl, rfl, rfl, rfl, trivial⟩
        first | (simp only [decide_eq_true_eq, decide_eq_false_iff_not, Bool.not_eq_true', Bool.not_eq_false', ne_eq, Decidable.not_not, Bool.not_eq_true, Bool.not_eq_false] at q89) | (dsimp only at q89) | skip
        refine RegD.skip (i := 12) rfl rfl rfl rfl rfl rfl rfl (by kernel_rfl) ?_
        refine RegD.skip (i := 13) rfl rfl rfl rfl rfl rfl rfl (by kernel_rfl) ?_
        refine RegD.skip (i := 14) rfl rfl rfl rfl rfl rfl rfl (by kernel_rfl) ?_
        refine RegD.skip (i := 15) rfl rfl rfl rfl rfl rfl rfl (by kernel_rfl) ?_
        refine RegD.skip (i := 16) rfl rfl rfl rfl rfl rfl rfl (by kernel_rfl) ?_
        refine RegD.skip (i := 17) rfl rfl rfl rfl rfl rfl rfl (by kernel_rfl) ?_
        refine RegD.skip (i := 18) rfl rfl rfl rfl rfl rfl rfl (by kernel_rfl) ?_
        refine RegD.skip (i := 19) rfl rfl rfl rfl rfl rfl rfl (by kernel_rfl) ?_
        refine RegD.tpur (i := 20) rfl rfl rfl rfl (by kernel_rfl) (Pur.pickF rfl rfl) ?_
        refine RegD.tpur (i := 21) rfl rfl rfl rfl (by kernel_rfl) (Pur.mv rfl) ?_
        refine RegD.gtpur (i := 22) rfl rfl rfl rfl rfl rfl (by kernel_rfl) (Pur.mv rfl) ?_
        refine RegD.gtpur (i := 23) rfl rfl rfl rfl rfl rfl (by kernel_rfl) (Pur.mv rfl) ?_
        refine RegD.gtpur (i := 24) rfl rfl rfl rfl rfl rfl (by kernel_rfl) (Pur.idx _ es22 rfl rfl (by omega) (by omega)) ?_
        refine RegD.gtpur (i := 25) rfl rfl rfl rfl rfl rfl (by kernel_rfl) (Pur.fld _ fo49_1 rfl) ?_
        refine RegD.gtake (i := 26) rfl rfl rfl rfl rfl rfl (by kernel_rfl) (Bks.cons hgB.blk (Bks.cons o18_5.blk Bks.nil)) (fun H hS => Lod.ld sc4 rfl hS.hd (by rw [Int.toNat_natCast, Nat.zero_add]; exact at_tk hdi (j := 1) (by decide) rfl)) ?_
        refine RegD.gtpur (i := 27) rfl rfl rfl rfl rfl rfl (by kernel_rfl) (Pur.mv rfl) ?_
        refine RegD.case 105 rfl (fun q105 => ?_) (fun q105 => ?_)
        · first | (simp only [decide_eq_true_eq, decide_eq_false_iff_not, Bool.not_eq_true', Bool.not_eq_false', ne_eq, Decidable.not_not, Bool.not_eq_true, Bool.not_eq_false] at q105) | (dsimp only at q105) | skip
          refine RegD.gtpur (i := 28) rfl rfl rfl rfl rfl rfl (by kernel_rfl) (Pur.fld _ fo47_0 rfl) ?_
          refine RegD.gtake (i := 29) rfl rfl rfl rfl rfl rfl (by kernel_rfl) (Bks.cons hgB.blk (Bks.cons o18_5.blk Bks.nil)) (fun H hS => Lod.ld sc3 rfl hS.tl.hd (show _ = some (I (X1[j].getD 0 0)) from at_Is (by rw [h9n]; decide))) ?_
          refine RegD.gtpur (i := 30) rfl rfl rfl rfl rfl rfl (by kernel_rfl) (Pur.eql rfl rfl) ?_
          refine RegD.gtpur (i := 31) rfl rfl rfl rfl rfl rfl (by kernel_rfl) (Pur.pickT rfl rfl) ?_
          refine RegD.gtpur (i := 32) rfl rfl rfl rfl rfl rfl (by kernel_rfl) (Pur.mv rfl) ?_
          refine RegD.case 110 rfl (fun q110 => ?_) (fun q110 => ?_)
          · first | (simp only [decide_eq_true_eq, decide_eq_false_iff_not, Bool.not_eq_true', Bool.not_eq_false', ne_eq, Decidable.not_not, Bool.not_eq_true, Bool.not_eq_false] at q110) | (dsimp only at q110) | skip
            refine RegD.gtpur (i := 33) rfl rfl rfl rfl rfl rfl (by kernel_rfl) (Pur.fld _ fo47_4 rfl) ?_
            refine RegD.gtpur (i := 34) rfl rfl rfl rfl rfl rfl (by kernel_rfl) (Pur.fld _ fo28_1 rfl) ?_
            refine RegD.gtake (i := 35) rfl rfl rfl rfl rfl rfl (by kernel_rfl) (Bks.cons hgB.blk (Bks.cons o18_5.blk Bks.nil)) (fun H hS => Lod.ld sc3 rfl hS.tl.hd (show _ = some (I (X1[j].getD 8 0)) from at_Is (by rw [h9n]; decide))) ?_
            refine RegD.gtpur (i := 36) rfl rfl rfl rfl rfl rfl (by kernel_rfl) (Pur.mv rfl) ?_
            refine RegD.gtpur (i := 37) rfl rfl rfl rfl rfl rfl (by kernel_rfl) (Pur.mv rfl) ?_
            refine RegD.gtpur (i := 38) rfl rfl rfl rfl rfl rfl (by kernel_rfl) (Pur.idx _ es22 rfl rfl (by omega) (by omega)) ?_
            refine RegD.gtpur (i := 39) rfl rfl rfl rfl rfl rfl (by kernel_rfl) (Pur.fld _ fo49_0 rfl) ?_
            refine RegD.gtake (i := 40) rfl rfl rfl rfl rfl rfl (by kernel_rfl) (Bks.cons hgB.blk (Bks.cons o18_5.blk Bks.nil)) (fun H hS => Lod.ld sc3 rfl hS.hd (by rw [Int.toNat_natCast, Nat.zero_add]; exact at_tk hdi (j := 0) (by decide) rfl)) ?_
            refine RegD.gtpur (i := 41) rfl rfl rfl rfl rfl rfl (by kernel_rfl) (Pur.eql rfl rfl) ?_
            refine RegD.gtpur (i := 42) rfl rfl rfl rfl rfl rfl (by kernel_rfl) (Pur.pickT rfl rfl) ?_
            refine RegD.tpur (i := 43) rfl rfl rfl rfl (by kernel_rfl) (Pur.pickF rfl rfl) ?_
            refine RegD.done (by kernel_rfl) ?_
            refine At.cond rfl rfl (fun q121 => ?_) (fun q121 => ?_)
            · first | (simp only [decide_eq_true_eq, decide_eq_false_iff_not, Bool.not_eq_true', Bool.not_eq_false', ne_eq, Decidable.not_not, Bool.not_eq_true, Bool.not_eq_false] at q121) | (dsimp only at q121) | skip
              refine At.region rfl rfl ?_
              refine Reg.pur rfl rfl rfl rfl (Pur.asg rfl) ?_
              refine Reg.nil ?_
              refine At.ret rfl Try.func15 rfl ?_
              exact absurd (by unfold pBd pVar pRow; simp_all) hf
            first | (simp only [decide_eq_true_eq, decide_eq_false_iff_not, Bool.not_eq_true', Bool.not_eq_false', ne_eq, Decidable.not_not, Bool.not_eq_true, Bool.not_eq_false] at q121) | (dsimp only at q121) | skip
            refine At.region rfl rfl ?_
            refine Reg.pur rfl rfl rfl rfl (Pur.mv rfl) ?_
            first | refine Reg.pur rfl rfl rfl rfl (Pur.add64 rfl rfl (by omega)) ?_ | refine Reg.pur rfl rfl rfl rfl (Pur.add64 rfl rfl (by assumption)) ?_ | refine Reg.pur rfl rfl rfl rfl (Pur.add rfl rfl) ?_
            refine Reg.pur rfl rfl rfl rfl (Pur.asg rfl) ?_
            refine Reg.nil ?_
            exact At.via (ihj (j + 1) _ ⟨by omega, hEj⟩ (by omega)) ⟨rfl, rfl, rfl, rfl, trivial⟩
          first | (simp only [decide_eq_true_eq, decide_eq_false_iff_not, Bool.not_eq_true', Bool.not_eq_false', ne_eq, Decidable.not_not, Bool.not_eq_true, Bool.not_eq_false] at q110) | (dsimp only at q110) | skip
          refine RegD.skip (i := 33) rfl rfl rfl rfl rfl rfl rfl (by kernel_rfl) ?_
          refine RegD.skip (i := 34) rfl rfl rfl rfl rfl rfl rfl (by kernel_rfl) ?_
          refine RegD.skip (i := 35) rfl rfl rfl rfl rfl rfl rfl (by kernel_rfl) ?_
          refine RegD.skip (i := 36) rfl rfl rfl rfl rfl rfl rfl (by kernel_rfl) ?_
          refine RegD.skip (i := 37) rfl rfl rfl rfl rfl rfl rfl (by kernel_rfl) ?_
          refine RegD.skip (i := 38) rfl rfl rfl rfl rfl rfl rfl (by kernel_rfl) ?_
          refine RegD.skip (i := 39) rfl rfl rfl rfl rfl rfl rfl (by kernel_rfl) ?_
          refine RegD.skip (i := 40) rfl rfl rfl rfl rfl rfl rfl (by kernel_rfl) ?_
          refine RegD.skip (i := 41) rfl rfl rfl rfl rfl rfl rfl (by kernel_rfl) ?_
          refine RegD.gtpur (i := 42) rfl rfl rfl rfl rfl rfl (by kernel_rfl) (Pur.pickF rfl rfl) ?_
          refine RegD.tpur (i := 43) rfl rfl rfl rfl (by kernel_rfl) (Pur.pickF rfl rfl) ?_
          refine RegD.done (by kernel_rfl) ?_
          refine At.condF rfl rfl rfl ?_
          refine At.region rfl rfl ?_
          refine Reg.pur rfl rfl rfl rfl (Pur.mv rfl) ?_
          first | refine Reg.pur rfl rfl rfl rfl (Pur.add64 rfl rfl (by omega)) ?_ | refine Reg.pur rfl rfl rfl rfl (Pur.add64 rfl rfl (by assumption)) ?_ | refine Reg.pur rfl rfl rfl rfl (Pur.add rfl rfl) ?_
          refine Reg.pur rfl rfl rfl rfl (Pur.asg rfl) ?_
          refine Reg.nil ?_
          exact At.via (ihj (j + 1) _ ⟨by omega, hEj⟩ (by omega)) ⟨rfl, rfl, rfl, rfl, trivial⟩
        first | (simp only [decide_eq_true_eq, decide_eq_false_iff_not, Bool.not_eq_true', Bool.not_eq_false', ne_eq, Decidable.not_not, Bool.not_eq_true, Bool.not_eq_false] at q105) | (dsimp only at q105) | skip
        refine RegD.skip (i := 28) rfl rfl rfl rfl rfl rfl rfl (by kernel_rfl) ?_
        refine RegD.skip (i := 29) rfl rfl rfl rfl rfl rfl rfl (by kernel_rfl) ?_
        refine RegD.skip (i := 30) rfl rfl rfl rfl rfl rfl rfl (by kernel_rfl) ?_
        refine RegD.gtpur (i := 31) rfl rfl rfl rfl rfl rfl (by kernel_rfl) (Pur.pickF rfl rfl) ?_
        refine RegD.gtpur (i := 32) rfl rfl rfl rfl rfl rfl (by kernel_rfl) (Pur.mv rfl) ?_
        refine RegD.skip (i := 33) rfl rfl rfl rfl rfl rfl rfl (by kernel_rfl) ?_
        refine RegD.skip (i := 34) rfl rfl rfl rfl rfl rfl rfl (by kernel_rfl) ?_
        refine RegD.skip (i := 35) rfl rfl rfl rfl rfl rfl rfl (by kernel_rfl) ?_
        refine RegD.skip (i := 36) rfl rfl rfl rfl rfl rfl rfl (by kernel_rfl) ?_
        refine RegD.skip (i := 37) rfl rfl rfl rfl rfl rfl rfl (by kernel_rfl) ?_
        refine RegD.skip (i := 38) rfl rfl rfl rfl rfl rfl rfl (by kernel_rfl) ?_
        refine RegD.skip (i := 39) rfl rfl rfl rfl rfl rfl rfl (by kernel_rfl) ?_
        refine RegD.skip (i := 40) rfl rfl rfl rfl rfl rfl rfl (by kernel_rfl) ?_
        refine RegD.skip (i := 41) rfl rfl rfl rfl rfl rfl rfl (by kernel_rfl) ?_
        refine RegD.gtpur (i := 42) rfl rfl rfl rfl rfl rfl (by kernel_rfl) (Pur.pickF rfl rfl) ?_
        refine RegD.tpur (i := 43) rfl rfl rfl rfl (by kernel_rfl) (Pur.pickF rfl rfl) ?_
        refine RegD.done (by kernel_rfl) ?_
        refine At.condF rfl rfl rfl ?_
        refine At.region rfl rfl ?_
        refine Reg.pur rfl rfl rfl rfl (Pur.mv rfl) ?_
        first | refine Reg.pur rfl rfl rfl rfl (Pur.add64 rfl rfl (by omega)) ?_ | refine Reg.pur rfl rfl rfl rfl (Pur.add64 rfl rfl (by assumption)) ?_ | refine Reg.pur rfl rfl rfl rfl (Pur.add rfl rfl) ?_
        refine Reg.pur rfl rfl rfl rfl (Pur.asg rfl) ?_
        refine Reg.nil ?_
        exact At.via (ihj (j + 1) _ ⟨by omega, hEj⟩ (by omega)) ⟨rfl, rfl, rfl, rfl, trivial⟩
      first | (simp only [decide_eq_true_eq, decide_eq_false_iff_not, Bool.not_eq_true', Bool.not_eq_false', ne_eq, Decidable.not_not, Bool.not_eq_true, Bool.not_eq_false] at q84) | (dsimp only at q84) | skip
      refine RegD.skip (i := 7) rfl rfl rfl rfl rfl rfl rfl (by kernel_rfl) ?_
      refine RegD.skip (i := 8) rfl rfl rfl rfl rfl rfl rfl (by kernel_rfl) ?_
      refine RegD.skip (i := 9) rfl rfl rfl rfl rfl rfl rfl (by kernel_rfl) ?_
      refine RegD.tpur (i := 10) rfl rfl rfl rfl (by kernel_rfl) (Pur.pickF rfl rfl) ?_
      refine RegD.tpur (i := 11) rfl rfl rfl rfl (by kernel_rfl) (Pur.mv rfl) ?_
      refine RegD.skip (i := 12) rfl rfl rfl rfl rfl rfl rfl (by kernel_rfl) ?_
      refine RegD.skip (i := 13) rfl rfl rfl rfl rfl rfl rfl (by kernel_rfl) ?_
      refine RegD.skip (i := 14) rfl rfl rfl rfl rfl rfl rfl (by kernel_rfl) ?_
      refine RegD.skip (i := 15) rfl rfl rfl rfl rfl rfl rfl (by kernel_rfl) ?_
      refine RegD.skip (i := 16) rfl rfl rfl rfl rfl rfl rfl (by kernel_rfl) ?_
      refine RegD.skip (i := 17) rfl rfl rfl rfl rfl rfl rfl (by kernel_rfl) ?_
      refine RegD.skip (i := 18) rfl rfl rfl rfl rfl rfl rfl (by kernel_rfl) ?_
      refine RegD.skip (i := 19) rfl rfl rfl rfl rfl rfl rfl (by kernel_rfl) ?_
      refine RegD.tpur (i := 20) rfl rfl rfl rfl (by kernel_rfl) (Pur.pickF rfl rfl) ?_
      refine RegD.tpur (i := 21) rfl rfl rfl rfl (by kernel_rfl) (Pur.mv rfl) ?_
      refine RegD.gtpur (i := 22) rfl rfl rfl rfl rfl rfl (by kernel_rfl) (Pur.mv rfl) ?_
      refine RegD.gtpur (i := 23) rfl rfl rfl rfl rfl rfl (by kernel_rfl) (Pur.mv rfl) ?_
      refine RegD.gtpur (i := 24) rfl rfl rfl rfl rfl rfl (by kernel_rfl) (Pur.idx _ es22 rfl rfl (by omega) (by omega)) ?_
      refine RegD.gtpur (i := 25) rfl rfl rfl rfl rfl rfl (by kernel_rfl) (Pur.fld _ fo49_1 rfl) ?_
      refine RegD.gtake (i := 26) rfl rfl rfl rfl rfl rfl (by kernel_rfl) (Bks.cons hgB.blk (Bks.cons o18_5.blk Bks.nil)) (fun H hS => Lod.ld sc4 rfl hS.hd (by rw [Int.toNat_natCast, Nat.zero_add]; exact at_tk hdi (j := 1) (by decide) rfl)) ?_
      refine RegD.gtpur (i := 27) rfl rfl rfl rfl rfl rfl (by kernel_rfl) (Pur.mv rfl) ?_
      refine RegD.case 105 rfl (fun q105 => ?_) (fun q105 => ?_)
      · first | (simp only [decide_eq_true_eq, decide_eq_false_iff_not, Bool.not_eq_true', Bool.not_eq_false', ne_eq, Decidable.not_not, Bool.not_eq_true, Bool.not_eq_false] at q105) | (dsimp only at q105) | skip
        refine RegD.gtpur (i := 28) rfl rfl rfl rfl rfl rfl (by kernel_rfl) (Pur.fld _ fo47_0 rfl) ?_
        refine RegD.gtake (i := 29) rfl rfl rfl rfl rfl rfl (by kernel_rfl) (Bks.cons hgB.blk (Bks.cons o18_5.blk Bks.nil)) (fun H hS => Lod.ld sc3 rfl hS.tl.hd (show _ = some (I (X1[j].getD 0 0)) from at_Is (by rw [h9n]; decide))) ?_
        refine RegD.gtpur (i := 30) rfl rfl rfl rfl rfl rfl (by kernel_rfl) (Pur.eql rfl rfl) ?_
        refine RegD.gtpur (i := 31) rfl rfl rfl rfl rfl rfl (by kernel_rfl) (Pur.pickT rfl rfl) ?_
        refine RegD.gtpur (i := 32) rfl rfl rfl rfl rfl rfl (by kernel_rfl) (Pur.mv rfl) ?_
        refine RegD.case 110 rfl (fun q110 => ?_) (fun q110 => ?_)
        · first | (simp only [decide_eq_true_eq, decide_eq_false_iff_not, Bool.not_eq_true', Bool.not_eq_false', ne_eq, Decidable.not_not, Bool.not_eq_true, Bool.not_eq_false] at q110) | (dsimp only at q110) | skip
          refine RegD.gtpur (i := 33) rfl rfl rfl rfl rfl rfl (by kernel_rfl) (Pur.fld _ fo47_4 rfl) ?_
          refine RegD.gtpur (i := 34) rfl rfl rfl rfl rfl rfl (by kernel_rfl) (Pur.fld _ fo28_1 rfl) ?_
          refine RegD.gtake (i := 35) rfl rfl rfl rfl rfl rfl (by kernel_rfl) (Bks.cons hgB.blk (Bks.cons o18_5.blk Bks.nil)) (fun H hS => Lod.ld sc3 rfl hS.tl.hd (show _ = some (I (X1[j].getD 8 0)) from at_Is (by rw [h9n]; decide))) ?_
          refine RegD.gtpur (i := 36) rfl rfl rfl rfl rfl rfl (by kernel_rfl) (Pur.mv rfl) ?_
          refine RegD.gtpur (i := 37) rfl rfl rfl rfl rfl rfl (by kernel_rfl) (Pur.mv rfl) ?_
          refine RegD.gtpur (i := 38) rfl rfl rfl rfl rfl rfl (by kernel_rfl) (Pur.idx _ es22 rfl rfl (by omega) (by omega)) ?_
          refine RegD.gtpur (i := 39) rfl rfl rfl rfl rfl rfl (by kernel_rfl) (Pur.fld _ fo49_0 rfl) ?_
          refine RegD.gtake (i := 40) rfl rfl rfl rfl rfl rfl (by kernel_rfl) (Bks.cons hgB.blk (Bks.cons o18_5.blk Bks.nil)) (fun H hS => Lod.ld sc3 rfl hS.hd (by rw [Int.toNat_natCast, Nat.zero_add]; exact at_tk hdi (j := 0) (by decide) rfl)) ?_
          refine RegD.gtpur (i := 41) rfl rfl rfl rfl rfl rfl (by kernel_rfl) (Pur.eql rfl rfl) ?_
          refine RegD.gtpur (i := 42) rfl rfl rfl rfl rfl rfl (by kernel_rfl) (Pur.pickT rfl rfl) ?_
          refine RegD.tpur (i := 43) rfl rfl rfl rfl (by kernel_rfl) (Pur.pickF rfl rfl) ?_
          refine RegD.done (by kernel_rfl) ?_
          refine At.cond rfl rfl (fun q121 => ?_) (fun q121 => ?_)
          · first | (simp only [decide_eq_true_eq, decide_eq_false_iff_not, Bool.not_eq_true', Bool.not_eq_false', ne_eq, Decidable.not_not, Bool.not_eq_true, Bool.not_eq_false] at q121) | (dsimp only at q121) | skip
            refine At.region rfl rfl ?_
            refine Reg.pur rfl rfl rfl rfl (Pur.asg rfl) ?_
            refine Reg.nil ?_
            refine At.ret rfl Try.func15 rfl ?_
            exact absurd (by unfold pBd pVar pRow; simp_all) hf
          first | (simp only [decide_eq_true_eq, decide_eq_false_iff_not, Bool.not_eq_true', Bool.not_eq_false', ne_eq, Decidable.not_not, Bool.not_eq_true, Bool.not_eq_false] at q121) | (dsimp only at q121) | skip
          refine At.region rfl rfl ?_
          refine Reg.pur rfl rfl rfl rfl (Pur.mv rfl) ?_
          first | refine Reg.pur rfl rfl rfl rfl (Pur.add64 rfl rfl (by omega)) ?_ | refine Reg.pur rfl rfl rfl rfl (Pur.add64 rfl rfl (by assumption)) ?_ | refine Reg.pur rfl rfl rfl rfl (Pur.add rfl rfl) ?_
          refine Reg.pur rfl rfl rfl rfl (Pur.asg rfl) ?_
          refine Reg.nil ?_
          exact At.via (ihj (j + 1) _ ⟨by omega, hEj⟩ (by omega)) ⟨rfl, rfl, rfl, rfl, trivial⟩
        first | (simp only [decide_eq_true_eq, decide_eq_false_iff_not, Bool.not_eq_true', Bool.not_eq_false', ne_eq, Decidable.not_not, Bool.not_eq_true, Bool.not_eq_false] at q110) | (dsimp only at q110) | skip
        refine RegD.skip (i := 33) rfl rfl rfl rfl rfl rfl rfl (by kernel_rfl) ?_
        refine RegD.skip (i := 34) rfl rfl rfl rfl rfl rfl rfl (by kernel_rfl) ?_
        refine RegD.skip (i := 35) rfl rfl rfl rfl rfl rfl rfl (by kernel_rfl) ?_
        refine RegD.skip (i := 36) rfl rfl rfl rfl rfl rfl rfl (by kernel_rfl) ?_
        refine RegD.skip (i := 37) rfl rfl rfl rfl rfl rfl rfl (by kernel_rfl) ?_
        refine RegD.skip (i := 38) rfl rfl rfl rfl rfl rfl rfl (by kernel_rfl) ?_
        refine RegD.skip (i := 39) rfl rfl rfl rfl rfl rfl rfl (by kernel_rfl) ?_
        refine RegD.skip (i := 40) rfl rfl rfl rfl rfl rfl rfl (by kernel_rfl) ?_
        refine RegD.skip (i := 41) rfl rfl rfl rfl rfl rfl rfl (by kernel_rfl) ?_
        refine RegD.gtpur (i := 42) rfl rfl rfl rfl rfl rfl (by kernel_rfl) (Pur.pickF rfl rfl) ?_
        refine RegD.tpur (i := 43) rfl rfl rfl rfl (by kernel_rfl) (Pur.pickF rfl rfl) ?_
        refine RegD.done (by kernel_rfl) ?_
        refine At.condF rfl rfl rfl ?_
        refine At.region rfl rfl ?_
        refine Reg.pur rfl rfl rfl rfl (Pur.mv rfl) ?_
        first | refine Reg.pur rfl rfl rfl rfl (Pur.add64 rfl rfl (by omega)) ?_ | refine Reg.pur rfl rfl rfl rfl (Pur.add64 rfl rfl (by assumption)) ?_ | refine Reg.pur rfl rfl rfl rfl (Pur.add rfl rfl) ?_
        refine Reg.pur rfl rfl rfl rfl (Pur.asg rfl) ?_
        refine Reg.nil ?_
        exact At.via (ihj (j + 1) _ ⟨by omega, hEj⟩ (by omega)) ⟨rfl, rfl, rfl, rfl, trivial⟩
      first | (simp only [decide_eq_true_eq, decide_eq_false_iff_not, Bool.not_eq_true', Bool.not_eq_false', ne_eq, Decidable.not_not, Bool.not_eq_true, Bool.not_eq_false] at q105) | (dsimp only at q105) | skip
      refine RegD.skip (i := 28) rfl rfl rfl rfl rfl rfl rfl (by kernel_rfl) ?_
      refine RegD.skip (i := 29) rfl rfl rfl rfl rfl rfl rfl (by kernel_rfl) ?_
      refine RegD.skip (i := 30) rfl rfl rfl rfl rfl rfl rfl (by kernel_rfl) ?_
      refine RegD.gtpur (i := 31) rfl rfl rfl rfl rfl rfl (by kernel_rfl) (Pur.pickF rfl rfl) ?_
      refine RegD.gtpur (i := 32) rfl rfl rfl rfl rfl rfl (by kernel_rfl) (Pur.mv rfl) ?_
      refine RegD.skip (i := 33) rfl rfl rfl rfl rfl rfl rfl (by kernel_rfl) ?_
      refine RegD.skip (i := 34) rfl rfl rfl rfl rfl rfl rfl (by kernel_rfl) ?_
      refine RegD.skip (i := 35) rfl rfl rfl rfl rfl rfl rfl (by kernel_rfl) ?_
      refine RegD.skip (i := 36) rfl rfl rfl rfl rfl rfl rfl (by kernel_rfl) ?_
      refine RegD.skip (i := 37) rfl rfl rfl rfl rfl rfl rfl (by kernel_rfl) ?_
      refine RegD.skip (i := 38) rfl rfl rfl rfl rfl rfl rfl (by kernel_rfl) ?_
      refine RegD.skip (i := 39) rfl rfl rfl rfl rfl rfl rfl (by kernel_rfl) ?_
      refine RegD.skip (i := 40) rfl rfl rfl rfl rfl rfl rfl (by kernel_rfl) ?_
      refine RegD.skip (i := 41) rfl rfl rfl rfl rfl rfl rfl (by kernel_rfl) ?_
      refine RegD.gtpur (i := 42) rfl rfl rfl rfl rfl rfl (by kernel_rfl) (Pur.pickF rfl rfl) ?_
      refine RegD.tpur (i := 43) rfl rfl rfl rfl (by kernel_rfl) (Pur.pickF rfl rfl) ?_
      refine RegD.done (by kernel_rfl) ?_
      refine At.condF rfl rfl rfl ?_
      refine At.region rfl rfl ?_
      refine Reg.pur rfl rfl rfl rfl (Pur.mv rfl) ?_
      first | refine Reg.pur rfl rfl rfl rfl (Pur.add64 rfl rfl (by omega)) ?_ | refine Reg.pur rfl rfl rfl rfl (Pur.add64 rfl rfl (by assumption)) ?_ | refine Reg.pur rfl rfl rfl rfl (Pur.add rfl rfl) ?_
      refine Reg.pur rfl rfl rfl rfl (Pur.asg rfl) ?_
      refine Reg.nil ?_
      exact At.via (ihj (j + 1) _ ⟨by omega, hEj⟩ (by omega)) ⟨rfl, rfl, rfl, rfl, trivial⟩
    first | (simp only [decide_eq_true_eq, decide_eq_false_iff_not, Bool.not_eq_true', Bool.not_eq_false', ne_eq, Decidable.not_not, Bool.not_eq_true, Bool.not_eq_false] at q70) | (dsimp only at q70) | skip
    refine At.region rfl rfl ?_
    refine Reg.pur rfl rfl rfl rfl (Pur.mv rfl) ?_
    first | refine Reg.pur rfl rfl rfl rfl (Pur.add64 rfl rfl (by omega)) ?_ | refine Reg.pur rfl rfl rfl rfl (Pur.add64 rfl rfl (by assumption)) ?_ | refine Reg.pur rfl rfl rfl rfl (Pur.add rfl rfl) ?_
    refine Reg.pur rfl rfl rfl rfl (Pur.asg rfl) ?_
    refine Reg.nil ?_
    exact At.via (ih (i + 1) _ ⟨by omega, hEj⟩ (by omega)) ⟨rfl, rfl, rfl, trivial⟩
  first | (simp only [decide_eq_true_eq, decide_eq_false_iff_not, Bool.not_eq_true', Bool.not_eq_false', ne_eq, Decidable.not_not, Bool.not_eq_true, Bool.not_eq_false] at q63) | (dsimp only at q63) | skip
  refine At.region rfl rfl ?_
  refine Reg.pur rfl rfl rfl rfl (Pur.asg rfl) ?_
  refine Reg.nil ?_
  refine At.ret rfl Try.func15 rfl ?_
  exact ⟨rfl, hE.ext hEi⟩
end Go.Proofs.Ytlfillhffpiffaa
