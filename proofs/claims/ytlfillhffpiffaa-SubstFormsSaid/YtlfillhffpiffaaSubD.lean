/-
  The reference's rowOf.
-/
import Derived.Test.YtlfillhffpiffaaSubC
namespace Go.Proofs.Ytlfillhffpiffaa
set_option linter.unusedSimpArgs false
set_option linter.unusedVariables false
set_option maxRecDepth 8000
open Go Go.Fx Go.Proofs
namespace FactsSubD
theorem ag28 : ag Try.prog 28 = some 5 := by kernel_rfl
theorem ag49 : ag Try.prog 49 = some 8 := by kernel_rfl
theorem arr26 : arr Try.prog 26 = some (4, 1) := by kernel_rfl
theorem es22 : esz Try.prog 22 = some 8 := by kernel_rfl
theorem fo28_0 : foff Try.prog 28 0 = some 0 := by kernel_rfl
theorem fo28_1 : foff Try.prog 28 1 = some 4 := by kernel_rfl
theorem fo49_0 : foff Try.prog 49 0 = some 0 := by kernel_rfl
theorem fo49_1 : foff Try.prog 49 1 = some 1 := by kernel_rfl
theorem fo49_3 : foff Try.prog 49 3 = some 3 := by kernel_rfl
theorem isl22 : isSl Try.prog 22 = true := by kernel_rfl
theorem mixed : Try.prog.follows .mixedOrders = true := by kernel_rfl
theorem pl28 : places Try.prog 28 = some [(0, 4), (4, 1)] := by kernel_rfl
theorem sc3 : sc Try.prog 3 = true := by kernel_rfl
theorem sc4 : sc Try.prog 4 = true := by kernel_rfl
theorem zc28 : zc Try.prog 28 = some [.int .i64 0, .int .i64 0, .int .i64 0, .int .i64 0, .int .i64 0] := by kernel_rfl
theorem zc49 : zc Try.prog 49 = some [.int .i64 0, .bool false, .slice none 0 0, .int .i64 0, .int .i64 0, .int .i64 0, .int .i64 0, .int .i64 0] := by kernel_rfl
end FactsSubD
open FactsSubD

theorem encB_row {bd : Bd} (h : bd.row.length = 5) {j : Nat} (hj : j < 5) : (encB bd)[3 + j]? = some (I (bd.row.getD j 0)) := by
  rw [Nat.add_comm]
  exact at5 h hj

theorem rowS_end {L : List Bd} {r : List Int} (h : ¬ r.getD 4 0 < 0 → L.find? (mt true (r.getD 4 0)) = none) : rowS L r = (r, true) := by
  by_cases h0 : r.getD 4 0 < 0
  · exact rowS_lo h0
  · exact rowS_none (h h0)
theorem rowOf_ok {A : Option Addr} {cap : Nat} {L : List Bd} {H : Heap} (hS : Bds H (.slice A L.length cap) L) (r : List Int) (hr : r.length = 5) :
    Ret Try.prog 60 [.slice A L.length cap, .agg (Is r).toArray] H (fun v H' => v = RowB (rowS L r) ∧ (rowS L r).1.length = 5 ∧ Ext H H') := by
  have hm := hS.max
  have at4 : (Is r)[0 + 4]? = some (I (r.getD 4 0)) := at5 hr (by omega)
  refine Ret.of_at (N := 64) Try.call60 Try.func60 rfl rfl rfl ?_
  refine At.region rfl rfl ?_
  refine Reg.op rfl rfl rfl rfl (Does.box rfl rfl) ?_
  rintro _ H1 ⟨rfl, hn1⟩
  refine Reg.op rfl rfl rfl rfl (Does.alloc zc28) ?_
  rintro _ H2 ⟨rfl, hn2⟩
  refine Reg.pur rfl rfl rfl rfl (Pur.asg rfl) ?_
  refine Reg.nil ?_
  have hlt := hn1.own.lt
  have hlt2 := hn1.ext.1
  have hX := hn1.own.ext hn2.ext
  have hR0 : Own H2 H1.size (Is noRow) := hn2.own
  have hE2 := hn1.ext.trans hn2.ext
  refine At.region rfl rfl ?_
  refine Reg.pur rfl rfl rfl rfl (Pur.asg rfl) ?_
  refine Reg.nil ?_
  refine At.loop (σ := Nat) (fun i => [(6, I i), (0, .slice A L.length cap), (3, ptr H.size 0), (4, ptr H1.size 0)]) (fun i H' => i ≤ L.length ∧ Own H' H.size (Is r) ∧ Own H' H1.size (Is noRow) ∧ Ext H H' ∧ (¬ r.getD 4 0 < 0 → (L.drop i).find? (mt true (r.getD 4 0)) = L.find? (mt true (r.getD 4 0)))) (fun i => L.length - i) 0 rfl ⟨rfl, rfl, rfl, rfl, trivial⟩ ⟨by omega, hX, hR0, hE2, fun _ => rfl⟩ ?_
  clear hX hR0 hE2 hn2
  rintro i H3 ⟨hi, hX, hR0, hE3, hgo⟩ ih
  refine At.region rfl rfl ?_
  refine Reg.pur rfl rfl rfl rfl (Pur.mv rfl) ?_
  refine Reg.pur rfl rfl rfl rfl (Pur.mv rfl) ?_
  refine Reg.pur rfl rfl rfl rfl (Pur.lenS isl22 rfl) ?_
  refine Reg.pur rfl rfl rfl rfl (Pur.lss rfl rfl) ?_
  refine Reg.nil ?_
  refine At.cond rfl rfl (fun hb1 => ?_) (fun hb1 => ?_)
  · simp only [decide_eq_true_eq] at hb1
    have hlti : i < L.length := by omega
    obtain ⟨b, o, c, rfl, hB, hd, hok⟩ := (hS.ext hE3).at hlti
    rw [dropL hlti, List.find?_cons] at hgo
    generalize L[i] = bd at *
    have hbl := hok.row
    have h8 := hok.len
    have hs2 := hR0.lt
    refine At.region rfl rfl ?_
    refine Reg.pur rfl rfl rfl rfl (Pur.mv rfl) ?_
    refine Reg.pur rfl rfl rfl rfl (Pur.mv rfl) ?_
    refine Reg.pur rfl rfl rfl rfl (Pur.idx _ es22 rfl rfl (by omega) hb1) ?_
    refine Reg.lod rfl rfl rfl rfl (Lod.ldn ag49 rfl hB hd h8) ?_
    refine Reg.op rfl rfl rfl rfl (Does.alloc zc49) ?_
    rintro _ H4 ⟨rfl, hn4⟩
    refine Reg.op0 rfl rfl rfl (Does.stn ag49 rfl rfl (ones_encB _) h8 hn4.own (by decide)) ?_
    rintro _ H5 hu5
    refine Reg.nil ?_
    have hC : Own H5 H3.size (encB bd) := by have := hu5.own; rwa [over (by rfl)] at this
    have hX := (hX.ext hn4.ext).upd hu5 (by omega)
    have hR0 := (hR0.ext hn4.ext).upd hu5 (by omega)
    have hE5 := (hE3.trans hn4.ext).upd hu5 (by have := hE3.1; omega)
    refine At.region rfl rfl ?_
    refine Reg.pur rfl rfl rfl rfl (Pur.fld _ fo49_1 rfl) ?_
    refine Reg.lod rfl rfl rfl rfl (Lod.ld sc4 rfl hC.blk rfl) ?_
    refine Reg.pur rfl rfl rfl rfl (Pur.not rfl) ?_
    refine Reg.pur rfl rfl rfl rfl (Pur.mv rfl) ?_
    refine Reg.case 23 rfl (fun hc2 => ?_) (fun hc2 => ?_)
    · refine Reg.skip rfl rfl rfl rfl rfl rfl rfl ?_
      refine Reg.skip rfl rfl rfl rfl rfl rfl rfl ?_
      refine Reg.skip rfl rfl rfl rfl rfl rfl rfl ?_
      refine Reg.pur rfl rfl rfl rfl (Pur.pickT rfl rfl) ?_
      refine Reg.pur rfl rfl rfl rfl (Pur.mv rfl) ?_
      refine Reg.skip rfl rfl rfl rfl rfl rfl rfl ?_
      refine Reg.skip rfl rfl rfl rfl rfl rfl rfl ?_
      refine Reg.skip rfl rfl rfl rfl rfl rfl rfl ?_
      refine Reg.skip rfl rfl rfl rfl rfl rfl rfl ?_
      refine Reg.skip rfl rfl rfl rfl rfl rfl rfl ?_
      refine Reg.pur rfl rfl rfl rfl (Pur.pickT rfl rfl) ?_
      refine Reg.nil ?_
      refine At.condT rfl rfl rfl ?_
      refine At.region rfl rfl ?_
      refine Reg.pur rfl rfl rfl rfl (Pur.mv rfl) ?_
      first | refine Reg.pur rfl rfl rfl rfl (Pur.add64 rfl rfl (by omega)) ?_ | refine Reg.pur rfl rfl rfl rfl (Pur.add64 rfl rfl (by assumption)) ?_ | refine Reg.pur rfl rfl rfl rfl (Pur.add rfl rfl) ?_
      refine Reg.pur rfl rfl rfl rfl (Pur.asg rfl) ?_
      refine Reg.nil ?_
      refine At.via (ih (i + 1) _ ⟨by omega, hX, hR0, hE5, ?_⟩ (by omega)) ⟨rfl, rfl, rfl, rfl, trivial⟩
      intro h0
      rw [← hgo h0, show mt true (r.getD 4 0) bd = false by clear ih hgo; (try simp only [decide_eq_true_eq, decide_eq_false_iff_not] at *); first | omega | (simp_all [mt]; done) | (simp only [mt, decide_eq_false (p := bd.var = r.getD 4 0) (by omega), Bool.and_false])]
    · refine Reg.gpur rfl rfl rfl rfl rfl rfl (Pur.fld _ fo28_1 rfl) ?_
      refine Reg.glod rfl rfl rfl rfl rfl rfl (Lod.ld sc3 rfl hX.blk at4) ?_
      refine Reg.gpur rfl rfl rfl rfl rfl rfl (Pur.lss rfl rfl) ?_
      refine Reg.pur rfl rfl rfl rfl (Pur.pickF rfl rfl) ?_
      refine Reg.pur rfl rfl rfl rfl (Pur.mv rfl) ?_
      refine Reg.case 28 rfl (fun hc3 => ?_) (fun hc3 => ?_)
      · refine Reg.skip rfl rfl rfl rfl rfl rfl rfl ?_
        refine Reg.skip rfl rfl rfl rfl rfl rfl rfl ?_
        refine Reg.skip rfl rfl rfl rfl rfl rfl rfl ?_
        refine Reg.skip rfl rfl rfl rfl rfl rfl rfl ?_
        refine Reg.skip rfl rfl rfl rfl rfl rfl rfl ?_
        refine Reg.pur rfl rfl rfl rfl (Pur.pickT rfl rfl) ?_
        refine Reg.nil ?_
        refine At.condT rfl rfl rfl ?_
        refine At.region rfl rfl ?_
        refine Reg.pur rfl rfl rfl rfl (Pur.mv rfl) ?_
        first | refine Reg.pur rfl rfl rfl rfl (Pur.add64 rfl rfl (by omega)) ?_ | refine Reg.pur rfl rfl rfl rfl (Pur.add64 rfl rfl (by assumption)) ?_ | refine Reg.pur rfl rfl rfl rfl (Pur.add rfl rfl) ?_
        refine Reg.pur rfl rfl rfl rfl (Pur.asg rfl) ?_
        refine Reg.nil ?_
        refine At.via (ih (i + 1) _ ⟨by omega, hX, hR0, hE5, ?_⟩ (by omega)) ⟨rfl, rfl, rfl, rfl, trivial⟩
        intro h0
        rw [← hgo h0, show mt true (r.getD 4 0) bd = false by clear ih hgo; (try simp only [decide_eq_true_eq, decide_eq_false_iff_not] at *); first | omega | (simp_all [mt]; done) | (simp only [mt, decide_eq_false (p := bd.var = r.getD 4 0) (by omega), Bool.and_false])]
      · refine Reg.gpur rfl rfl rfl rfl rfl rfl (Pur.fld _ fo49_0 rfl) ?_
        refine Reg.glod rfl rfl rfl rfl rfl rfl (Lod.ld sc3 rfl hC.blk rfl) ?_
        refine Reg.gpur rfl rfl rfl rfl rfl rfl (Pur.fld _ fo28_1 rfl) ?_
        refine Reg.glod rfl rfl rfl rfl rfl rfl (Lod.ld sc3 rfl hX.blk at4) ?_
        refine Reg.gpur rfl rfl rfl rfl rfl rfl (Pur.neq rfl rfl) ?_
        refine Reg.pur rfl rfl rfl rfl (Pur.pickF rfl rfl) ?_
        refine Reg.nil ?_
        refine At.cond rfl rfl (fun hb4 => ?_) (fun hb4 => ?_)
        · refine At.region rfl rfl ?_
          refine Reg.pur rfl rfl rfl rfl (Pur.mv rfl) ?_
          first | refine Reg.pur rfl rfl rfl rfl (Pur.add64 rfl rfl (by omega)) ?_ | refine Reg.pur rfl rfl rfl rfl (Pur.add64 rfl rfl (by assumption)) ?_ | refine Reg.pur rfl rfl rfl rfl (Pur.add rfl rfl) ?_
          refine Reg.pur rfl rfl rfl rfl (Pur.asg rfl) ?_
          refine Reg.nil ?_
          refine At.via (ih (i + 1) _ ⟨by omega, hX, hR0, hE5, ?_⟩ (by omega)) ⟨rfl, rfl, rfl, rfl, trivial⟩
          intro h0
          rw [← hgo h0, show mt true (r.getD 4 0) bd = false by clear ih hgo; (try simp only [decide_eq_true_eq, decide_eq_false_iff_not] at *); first | omega | (simp_all [mt]; done) | (simp only [mt, decide_eq_false (p := bd.var = r.getD 4 0) (by omega), Bool.and_false])]
        · refine At.region rfl rfl ?_
          refine Reg.pur rfl rfl rfl rfl (Pur.fld _ fo49_3 rfl) ?_
          refine Reg.pur rfl rfl rfl rfl (Pur.fld _ fo28_1 rfl) ?_
          refine Reg.lod rfl rfl rfl rfl (Lod.ld sc3 rfl hC.blk (encB_row hbl (j := 4) (by omega))) ?_
          refine Reg.pur rfl rfl rfl rfl (Pur.bld (cs := [_, _, _, _, _]) pl28 zc28 rfl rfl ⟨rfl, rfl, rfl, rfl, rfl, rfl⟩) ?_
          refine Reg.op rfl rfl rfl rfl (Does.alloc zc28) ?_
          rintro _ H6 ⟨rfl, hn6⟩
          refine Reg.op0 rfl rfl rfl (Does.stn ag28 rfl rfl rfl rfl hn6.own (by decide)) ?_
          rintro _ H7 hu7
          refine Reg.nil ?_
          have hs5 := hC.lt
          have hT : Own H7 H5.size (Is (mixO r bd.row 0)) := hu7.own
          have hX := (hX.ext hn6.ext).upd hu7 (by omega)
          have hC := (hC.ext hn6.ext).upd hu7 (by omega)
          have hR0 := (hR0.ext hn6.ext).upd hu7 (by omega)
          have hE7 := (hE5.trans hn6.ext).upd hu7 (by have := hE5.1; omega)
          have hq : ¬ r.getD 4 0 < 0 ∧ L.find? (mt true (r.getD 4 0)) = some bd := by
            have h0 : ¬ r.getD 4 0 < 0 := by clear ih hgo; (try simp only [decide_eq_true_eq, decide_eq_false_iff_not] at *); omega
            refine ⟨h0, ?_⟩
            rw [← hgo h0, show mt true (r.getD 4 0) bd = true by clear ih hgo; (try simp only [decide_eq_true_eq, decide_eq_false_iff_not] at *); simp only [mt, decide_eq_true (p := bd.var = r.getD 4 0) (by omega)]; simp_all]
          clear ih hgo
          refine At.region rfl rfl ?_
          refine Reg.pur rfl rfl rfl rfl (Pur.asg rfl) ?_
          refine Reg.nil ?_
          refine At.loop (σ := Nat) (fun k => [(9, I k), (3, ptr H.size 0), (4, ptr H1.size 0), (7, ptr H3.size 0), (8, ptr H5.size 0)]) (fun k H' => k ≤ 4 ∧ Own H' H.size (Is r) ∧ Own H' H1.size (Is noRow) ∧ Own H' H3.size (encB bd) ∧ Own H' H5.size (Is (mixO r bd.row k)) ∧ Ext H H' ∧ ((List.range k).all fun i => decide (sm r bd.row i ≤ 32)) = true) (fun k => 4 - k) 0 rfl ⟨rfl, rfl, rfl, rfl, rfl, trivial⟩ ⟨by omega, hX, hR0, hC, hT, hE7, rfl⟩ ?_
          rintro k H8 ⟨hk, hX, hR0, hC, hT, hE8, hgo⟩ ih
          refine At.region rfl rfl ?_
          refine Reg.pur rfl rfl rfl rfl (Pur.mv rfl) ?_
          refine Reg.pur rfl rfl rfl rfl (Pur.lss rfl rfl) ?_
          refine Reg.nil ?_
          refine At.cond rfl rfl (fun hb5 => ?_) (fun hb5 => ?_)
          · simp only [decide_eq_true_eq] at *
            have hk4 : k < 4 := by omega
            have e0 : 0 + 0 + (k : Int).toNat * 1 = k := by omega
            have e3 : 0 + 3 + 0 + (k : Int).toNat * 1 = 3 + k := by omega
            have hri : (Is r)[0 + 0 + (k : Int).toNat * 1]? = some (I (r.getD k 0)) := by rw [e0]; exact at5 hr (by omega)
            have hbi : (encB bd)[0 + 3 + 0 + (k : Int).toNat * 1]? = some (I (bd.row.getD k 0)) := by rw [e3]; exact encB_row hbl (by omega)
            refine At.draw (fun H' => Blk H' H.size (Is r) ∧ Blk H' H3.size (encB bd)) [13] mixed rfl rfl ?_
            refine RegD.tpur (i := 0) rfl rfl rfl rfl (by kernel_rfl) (Pur.mv rfl) ?_
            refine RegD.tpur (i := 1) rfl rfl rfl rfl (by kernel_rfl) (Pur.mv rfl) ?_
            refine RegD.tpur (i := 2) rfl rfl rfl rfl (by kernel_rfl) (Pur.fld _ fo28_0 rfl) ?_
            refine RegD.tpur (i := 3) rfl rfl rfl rfl (by kernel_rfl) (Pur.idxP arr26 rfl rfl (by omega) (by omega)) ?_
            refine RegD.take (i := 4) rfl rfl rfl rfl (by kernel_rfl) ⟨hX.blk, hC.blk⟩ (fun H hS => Lod.ld sc3 rfl hS.1 hri) ?_
            refine RegD.tpur (i := 5) rfl rfl rfl rfl (by kernel_rfl) (Pur.mv rfl) ?_
            refine RegD.tpur (i := 6) rfl rfl rfl rfl (by kernel_rfl) (Pur.fld _ fo49_3 rfl) ?_
            refine RegD.tpur (i := 7) rfl rfl rfl rfl (by kernel_rfl) (Pur.fld _ fo28_0 rfl) ?_
            refine RegD.tpur (i := 8) rfl rfl rfl rfl (by kernel_rfl) (Pur.idxP arr26 rfl rfl (by omega) (by omega)) ?_
            refine RegD.take (i := 9) rfl rfl rfl rfl (by kernel_rfl) ⟨hX.blk, hC.blk⟩ (fun H hS => Lod.ld sc3 rfl hS.2 hbi) ?_
            first | refine RegD.tpur (i := 10) rfl rfl rfl rfl (by kernel_rfl) (Pur.add64 rfl rfl (by omega)) ?_ | refine RegD.tpur (i := 10) rfl rfl rfl rfl (by kernel_rfl) (Pur.add64 rfl rfl (by assumption)) ?_ | refine RegD.tpur (i := 10) rfl rfl rfl rfl (by kernel_rfl) (Pur.add rfl rfl) ?_
            refine RegD.tpur (i := 11) rfl rfl rfl rfl (by kernel_rfl) (Pur.fld _ fo28_0 rfl) ?_
            refine RegD.tpur (i := 12) rfl rfl rfl rfl (by kernel_rfl) (Pur.idxP arr26 rfl rfl (by omega) (by omega)) ?_
            refine RegD.one0 (i := 13) (by kernel_rfl) rfl rfl rfl (Does.st sc3 rfl rfl rfl hT (by rw [e0]; simp [mixO_len]; omega)) ?_
            rintro _ H9 hu9
            refine ⟨fun h => (by cases h), ?_⟩
            refine RegD.done (by kernel_rfl) ?_
            have hT : Own H9 H5.size (Is (mixO r bd.row (k + 1))) := by have := hu9.own; rw [e0] at this; rw [← mixO_set _ _ hk4, ← Is_set]; exact this
            have hX := hX.upd hu9 (by omega)
            have hC := hC.upd hu9 (by omega)
            have hR0 := hR0.upd hu9 (by omega)
            have hE9 := hE8.upd hu9 (by have := hE5.1; omega)
            have hrd : (Is (mixO r bd.row (k + 1)))[0 + 0 + (k : Int).toNat * 1]? = some (I (sm r bd.row k)) := by rw [e0, ← mixO_done r bd.row hk4]; exact at5 (mixO_len _ _ _) (by omega)
            refine At.region rfl rfl ?_
            refine Reg.pur rfl rfl rfl rfl (Pur.mv rfl) ?_
            refine Reg.pur rfl rfl rfl rfl (Pur.fld _ fo28_0 rfl) ?_
            refine Reg.pur rfl rfl rfl rfl (Pur.idxP arr26 rfl rfl (by omega) (by omega)) ?_
            refine Reg.lod rfl rfl rfl rfl (Lod.ld sc3 rfl hT.blk hrd) ?_
            refine Reg.pur rfl rfl rfl rfl (Pur.gtr rfl rfl) ?_
            refine Reg.nil ?_
            refine At.cond rfl rfl (fun hb6 => ?_) (fun hb6 => ?_)
            · refine At.region rfl rfl ?_
              refine Reg.pur rfl rfl rfl rfl (Pur.bld (cs := [_, _, _, _, _]) pl28 zc28 rfl rfl ⟨rfl, rfl, rfl, rfl, rfl, rfl⟩) ?_
              refine Reg.op0 rfl rfl rfl (Does.stn ag28 rfl rfl rfl rfl hR0 (by simp)) ?_
              rintro _ H10 hu10
              refine Reg.pur rfl rfl rfl rfl (Pur.asg rfl) ?_
              refine Reg.nil ?_
              have hR : Own H10 H1.size (Is noRow) := hu10.own
              have hE10 := hE9.upd hu10 (by omega)
              have hRl : (Is noRow).length = 5 := rfl
              refine At.retC rfl Try.func60 ⟨_, _, _, _, rfl, rfl, ⟨_, hR.blk, .inr ⟨_, _, ag28, (whole hRl), hRl, rfl⟩⟩, ⟨_, _, rfl, rfl, rfl⟩⟩ ?_
              first | exact ret_row (rowS_sum hq.1 hq.2 hgo) rfl hE10 | exact ret_row (rowS_bad hq.1 hq.2 hk4 (by simp only [decide_eq_true_eq] at *; omega)) rfl hE10 | exact ret_row (rowS_end (fun h0 => by simp only [decide_eq_false_iff_not] at hb1; have h1 := hgo h0; rw [List.drop_of_length_le (by omega)] at h1; exact h1.symm)) hr hE10
            · refine At.region rfl rfl ?_
              refine Reg.pur rfl rfl rfl rfl (Pur.mv rfl) ?_
              first | refine Reg.pur rfl rfl rfl rfl (Pur.add64 rfl rfl (by omega)) ?_ | refine Reg.pur rfl rfl rfl rfl (Pur.add64 rfl rfl (by assumption)) ?_ | refine Reg.pur rfl rfl rfl rfl (Pur.add rfl rfl) ?_
              refine Reg.pur rfl rfl rfl rfl (Pur.asg rfl) ?_
              refine Reg.nil ?_
              refine At.via (ih (k + 1) _ ⟨by omega, hX, hR0, hC, hT, hE9, ?_⟩ (by omega)) ⟨rfl, rfl, rfl, rfl, rfl, trivial⟩
              rw [okTo_step, hgo, decide_eq_true (by simp only [decide_eq_false_iff_not] at *; omega)]; rfl
          · refine At.region rfl rfl ?_
            refine Reg.lod rfl rfl rfl rfl (Lod.ldn ag28 rfl hT.blk (whole rfl) rfl) ?_
            refine Reg.op0 rfl rfl rfl (Does.stn ag28 rfl rfl (ones_Is _) rfl hR0 (by simp)) ?_
            rintro _ H10 hu10
            refine Reg.pur rfl rfl rfl rfl (Pur.asg rfl) ?_
            refine Reg.nil ?_
            have hk4 : k = 4 := by simp only [decide_eq_false_iff_not] at *; omega
            subst hk4
            have hR : Own H10 H1.size (Is (sumR r bd.row)) := by have := hu10.own; rwa [over (by rfl)] at this
            have hE10 := hE8.upd hu10 (by omega)
            have hRl : (Is (sumR r bd.row)).length = 5 := rfl
            refine At.retC rfl Try.func60 ⟨_, _, _, _, rfl, rfl, ⟨_, hR.blk, .inr ⟨_, _, ag28, (whole hRl), hRl, rfl⟩⟩, ⟨_, _, rfl, rfl, rfl⟩⟩ ?_
            first | exact ret_row (rowS_sum hq.1 hq.2 hgo) rfl hE10 | exact ret_row (rowS_bad hq.1 hq.2 hk4 (by simp only [decide_eq_true_eq] at *; omega)) rfl hE10 | exact ret_row (rowS_end (fun h0 => by simp only [decide_eq_false_iff_not] at hb1; have h1 := hgo h0; rw [List.drop_of_length_le (by omega)] at h1; exact h1.symm)) hr hE10
  · refine At.region rfl rfl ?_
    refine Reg.lod rfl rfl rfl rfl (Lod.ldn ag28 rfl hX.blk (whole (by simp [hr])) (by simp [hr])) ?_
    refine Reg.op0 rfl rfl rfl (Does.stn ag28 rfl rfl (ones_Is _) (by simp [hr]) hR0 (by simp)) ?_
    rintro _ H10 hu10
    refine Reg.pur rfl rfl rfl rfl (Pur.asg rfl) ?_
    refine Reg.nil ?_
    have hR : Own H10 H1.size (Is r) := by have := hu10.own; rwa [over (by rfl)] at this
    have hE10 := hE3.upd hu10 (by omega)
    have hRl : (Is r).length = 5 := by simp [hr]
    refine At.retC rfl Try.func60 ⟨_, _, _, _, rfl, rfl, ⟨_, hR.blk, .inr ⟨_, _, ag28, (whole hRl), hRl, rfl⟩⟩, ⟨_, _, rfl, rfl, rfl⟩⟩ ?_
    first | exact ret_row (rowS_sum hq.1 hq.2 hgo) rfl hE10 | exact ret_row (rowS_bad hq.1 hq.2 hk4 (by simp only [decide_eq_true_eq] at *; omega)) rfl hE10 | exact ret_row (rowS_end (fun h0 => by simp only [decide_eq_false_iff_not] at hb1; have h1 := hgo h0; rw [List.drop_of_length_le (by omega)] at h1; exact h1.symm)) hr hE10
end Go.Proofs.Ytlfillhffpiffaa
