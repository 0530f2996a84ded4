/-
  Chapter 10: any types.
-/
import Derived.Test.YtlfillhffpiffaaR6
import Derived.Test.YtlfillhffpiffaaRUniRD
namespace Go.Proofs.Ytlfillhffpiffaa
set_option linter.unusedSimpArgs false
set_option linter.unusedVariables false
set_option maxRecDepth 8000
set_option maxHeartbeats 1000000
open Go Go.Fx Go.Proofs
namespace FactsUniAC
theorem ag25 : ag Try.prog 25 = some 1 := by kernel_rfl
theorem mixed : Try.prog.follows .mixedOrders = true := by kernel_rfl
theorem zc25 : zc Try.prog 25 = some [.slice none 0 0] := by kernel_rfl
end FactsUniAC
open FactsUniAC

theorem unifies_law {A B : Option Addr} {ca cb : Nat} {L M : List (List Int)} (hL : Nine L) (hM : Nine M) {H : Heap} (hS : SlT H Is 9 (.slice A L.length ca) L) (hT : SlT H Is 9 (.slice B M.length cb) M) (hl : L.length * 72 ≤ 140737488351232) (hm : M.length * 72 ≤ 140737488351232) (f : Int) :
    Ret Try.prog 11 [Ty A L.length ca, Ty B M.length cb, I f] H (fun v H' => v = .bool true ∧ Ext H H') := by
  obtain ⟨r, hr⟩ := unf_ex f hL hM
  refine Ret.of_at (N := 54) Try.call11 Try.func11 rfl rfl rfl ?_
  have hE := Ext.refl H
  refine At.region rfl rfl ?_
  refine Reg.op rfl rfl rfl rfl (Does.box rfl rfl) ?_
  rintro _ H0_0 ⟨rfl, hn0_0⟩
  have z0_0 := hn0_0.size
  replace hE := hE.ext hn0_0.ext
  have o0_0 := hn0_0.own
  refine Reg.op rfl rfl rfl rfl (Does.box rfl rfl) ?_
  rintro _ H0_1 ⟨rfl, hn0_1⟩
  have z0_1 := hn0_1.size
  replace hE := hE.ext hn0_1.ext
  replace o0_0 := o0_0.ext hn0_1.ext
  have o0_1 := hn0_1.own
  refine Reg.pur rfl rfl rfl rfl (Pur.asg rfl) ?_
  refine Reg.nil ?_
  refine At.drawJ (σ := Option Addr × Nat × Option Addr × Nat × Nat × Nat) (fun (Ax, cx, Ay, cy, b7, b8) => [(7, ptr b7 0), (8, ptr b8 0), (3, ptr H.size 0), (4, ptr H0_0.size 0), (2, I f)]) (fun (Ax, cx, Ay, cy, b7, b8) H' => Own H' b7 [.slice Ax L.length cx] ∧ SlT H' Is 9 (.slice Ax L.length cx) L ∧ Own H' b8 [.slice Ay M.length cy] ∧ SlT H' Is 9 (.slice Ay M.length cy) M ∧ Own H' H.size [.slice A L.length ca] ∧ Own H' H0_0.size [.slice B M.length cb] ∧ Ext H H') ((Bks.cons o0_0.blk (Bks.cons o0_1.blk Bks.nil))) [7] mixed rfl rfl ?_ (fun s H_r1 hs => ?_)
  · refine RegD.take (i := 0) rfl rfl rfl rfl (by kernel_rfl) (Bks.cons o0_0.blk (Bks.cons o0_1.blk Bks.nil)) (fun H hS => Lod.ldn ag25 rfl hS.hd (whole rfl) rfl) ?_
    refine RegD.take (i := 2) rfl rfl rfl rfl (by kernel_rfl) (Bks.cons o0_0.blk (Bks.cons o0_1.blk Bks.nil)) (fun H hS => Lod.ldn ag25 rfl hS.tl.hd (whole rfl) rfl) ?_
    refine RegD.fork3 (i := 1) (j := 4) (k := 5) (by kernel_rfl) ?_ ?_ ?_
    · refine RegOp.one (i := 1) rfl rfl rfl rfl (Does.call rfl (copyType_ok hL (hS.ext hE) hl)) ?_
      rintro v1_1 H1_1 ⟨Ax, cx, rfl, hGx, hE1_1⟩
      have z1_1 := hE1_1.lt
      replace hE := hE.ext hE1_1
      replace o0_0 := o0_0.ext hE1_1
      replace o0_1 := o0_1.ext hE1_1
      have hSx := own_sl (wide9 hL) (by decide) hGx
      have hgx := hGx.lt
      have z_hSx := hSx.lt
      refine ⟨fun _ _ => (Bks.cons o0_0.blk (Bks.cons o0_1.blk Bks.nil)), ?_⟩
      refine RegD.fork3 (i := 3) (j := 4) (k := 5) (by kernel_rfl) ?_ ?_ ?_
      · refine RegOp.one (i := 3) rfl rfl rfl rfl (Does.call rfl (copyType_ok hM (hT.ext hE) hm)) ?_
        rintro v1_3 H1_3 ⟨Ay, cy, rfl, hGy, hE1_3⟩
        have z1_3 := hE1_3.lt
        replace hE := hE.ext hE1_3
        replace o0_0 := o0_0.ext hE1_3
        replace o0_1 := o0_1.ext hE1_3
        replace hSx := hSx.ext hE1_3
        have hSy := own_sl (wide9 hM) (by decide) hGy
        have hgy := hGy.lt
        have z_hSy := hSy.lt
        refine ⟨fun _ _ => (Bks.cons o0_0.blk (Bks.cons o0_1.blk Bks.nil)), ?_⟩
        refine RegD.fork2 (i := 4) (j := 5) (by kernel_rfl) ?_ ?_
        · refine RegOp.one (i := 4) rfl rfl rfl rfl (Does.alloc zc25) ?_
          rintro _ H1_4 ⟨rfl, hn1_4⟩
          have z1_4 := hn1_4.size
          replace hE := hE.ext hn1_4.ext
          replace o0_0 := o0_0.ext hn1_4.ext
          replace o0_1 := o0_1.ext hn1_4.ext
          replace hSx := hSx.ext hn1_4.ext
          replace hSy := hSy.ext hn1_4.ext
          have o1_4 := hn1_4.own
          refine ⟨fun _ _ => (Bks.cons o0_0.blk (Bks.cons o0_1.blk Bks.nil)), ?_⟩
          refine RegD.one (i := 5) (by kernel_rfl) rfl rfl rfl rfl (Does.alloc zc25) ?_
          rintro _ H1_5 ⟨rfl, hn1_5⟩
          have z1_5 := hn1_5.size
          replace hE := hE.ext hn1_5.ext
          replace o0_0 := o0_0.ext hn1_5.ext
          replace o0_1 := o0_1.ext hn1_5.ext
          replace hSx := hSx.ext hn1_5.ext
          replace hSy := hSy.ext hn1_5.ext
          replace o1_4 := o1_4.ext hn1_5.ext
          have o1_5 := hn1_5.own
          refine ⟨fun _ _ => (Bks.cons o0_0.blk (Bks.cons o0_1.blk Bks.nil)), ?_⟩
          refine RegD.one0 (i := 6) (by kernel_rfl) rfl rfl rfl (Does.stn ag25 rfl rfl (by first | rfl | exact ones_Is _) (by first | rfl | (simp [*]; done)) o1_4 (by first | decide | (simp; done) | (simp; omega) | omega)) ?_
          rintro _ H1_6 hu1_6
          have z1_6 := hu1_6.size
          replace hE := hE.upw hu1_6 (by omega)
          replace o0_0 := o0_0.upw hu1_6 (by omega)
          replace o0_1 := o0_1.upw hu1_6 (by omega)
          replace hSx := hSx.upw hu1_6 (by omega)
          replace hSy := hSy.upw hu1_6 (by omega)
          replace o1_5 := o1_5.upw hu1_6 (by omega)
          replace o1_4 := hu1_6.own
          first | rw [over (by first | rfl | (simp; done))] at o1_4 | skip
          refine ⟨fun _ _ => (Bks.cons o0_0.blk (Bks.cons o0_1.blk Bks.nil)), ?_⟩
          refine RegD.one0 (i := 7) (by kernel_rfl) rfl rfl rfl (Does.stn ag25 rfl rfl (by first | rfl | exact ones_Is _) (by first | rfl | (simp [*]; done)) o1_5 (by first | decide | (simp; done) | (simp; omega) | omega)) ?_
          rintro _ H1_7 hu1_7
          have z1_7 := hu1_7.size
          replace hE := hE.upw hu1_7 (by omega)
          replace o0_0 := o0_0.upw hu1_7 (by omega)
          replace o0_1 := o0_1.upw hu1_7 (by omega)
          replace hSx := hSx.upw hu1_7 (by omega)
          replace hSy := hSy.upw hu1_7 (by omega)
          replace o1_4 := o1_4.upw hu1_7 (by omega)
          replace o1_5 := hu1_7.own
          first | rw [over (by first | rfl | (simp; done))] at o1_5 | skip
          refine ⟨fun h => (by cases h), ?_⟩
          refine RegD.done (by kernel_rfl) ?_
          exact ⟨(Ax, cx, Ay, cy, _, _), ⟨o1_4, hSx, o1_5, hSy, o0_0, o0_1, hE⟩, ⟨rfl, rfl, rfl, rfl, rfl, trivial⟩⟩
        refine RegOp.one (i := 5) rfl rfl rfl rfl (Does.alloc zc25) ?_
        rintro _ H1_5 ⟨rfl, hn1_5⟩
        have z1_5 := hn1_5.size
        replace hE := hE.ext hn1_5.ext
        replace o0_0 := o0_0.ext hn1_5.ext
        replace o0_1 := o0_1.ext hn1_5.ext
        replace hSx := hSx.ext hn1_5.ext
        replace hSy := hSy.ext hn1_5.ext
        have o1_5 := hn1_5.own
        refine ⟨fun _ _ => (Bks.cons o0_0.blk (Bks.cons o0_1.blk Bks.nil)), ?_⟩
        refine RegD.one (i := 4) (by kernel_rfl) rfl rfl rfl rfl (Does.alloc zc25) ?_
        rintro _ H1_4 ⟨rfl, hn1_4⟩
        have z1_4 := hn1_4.size
        replace hE := hE.ext hn1_4.ext
        replace o0_0 := o0_0.ext hn1_4.ext
        replace o0_1 := o0_1.ext hn1_4.ext
        replace hSx := hSx.ext hn1_4.ext
        replace hSy := hSy.ext hn1_4.ext
        replace o1_5 := o1_5.ext hn1_4.ext
        have o1_4 := hn1_4.own
        refine ⟨fun _ _ => (Bks.cons o0_0.blk (Bks.cons o0_1.blk Bks.nil)), ?_⟩
        refine RegD.one0 (i := 6) (by kernel_rfl) rfl rfl rfl (Does.stn ag25 rfl rfl (by first | rfl | exact ones_Is _) (by first | rfl | (simp [*]; done)) o1_4 (by first | decide | (simp; done) | (simp; omega) | omega)) ?_
        rintro _ H1_6 hu1_6
        have z1_6 := hu1_6.size
        replace hE := hE.upw hu1_6 (by omega)
        replace o0_0 := o0_0.upw hu1_6 (by omega)
        replace o0_1 := o0_1.upw hu1_6 (by omega)
        replace hSx := hSx.upw hu1_6 (by omega)
        replace hSy := hSy.upw hu1_6 (by omega)
        replace o1_5 := o1_5.upw hu1_6 (by omega)
        replace o1_4 := hu1_6.own
        first | rw [over (by first | rfl | (simp; done))] at o1_4 | skip
        refine ⟨fun _ _ => (Bks.cons o0_0.blk (Bks.cons o0_1.blk Bks.nil)), ?_⟩
        refine RegD.one0 (i := 7) (by kernel_rfl) rfl rfl rfl (Does.stn ag25 rfl rfl (by first | rfl | exact ones_Is _) (by first | rfl | (simp [*]; done)) o1_5 (by first | decide | (simp; done) | (simp; omega) | omega)) ?_
        rintro _ H1_7 hu1_7
        have z1_7 := hu1_7.size
        replace hE := hE.upw hu1_7 (by omega)
        replace o0_0 := o0_0.upw hu1_7 (by omega)
        replace o0_1 := o0_1.upw hu1_7 (by omega)
        replace hSx := hSx.upw hu1_7 (by omega)
        replace hSy := hSy.upw hu1_7 (by omega)
        replace o1_4 := o1_4.upw hu1_7 (by omega)
        replace o1_5 := hu1_7.own
        first | rw [over (by first | rfl | (simp; done))] at o1_5 | skip
        refine ⟨fun h => (by cases h), ?_⟩
        refine RegD.done (by kernel_rfl) ?_
        exact ⟨(Ax, cx, Ay, cy, _, _), ⟨o1_4, hSx, o1_5, hSy, o0_0, o0_1, hE⟩, ⟨rfl, rfl, rfl, rfl, rfl, trivial⟩⟩
      · refine RegOp.one (i := 4) rfl rfl rfl rfl (Does.alloc zc25) ?_
        rintro _ H1_4 ⟨rfl, hn1_4⟩
        have z1_4 := hn1_4.size
        replace hE := hE.ext hn1_4.ext
        replace o0_0 := o0_0.ext hn1_4.ext
        replace o0_1 := o0_1.ext hn1_4.ext
        replace hSx := hSx.ext hn1_4.ext
        have o1_4 := hn1_4.own
        refine ⟨fun _ _ => (Bks.cons o0_0.blk (Bks.cons o0_1.blk Bks.nil)), ?_⟩
        refine RegD.fork2 (i := 3) (j := 5) (by kernel_rfl) ?_ ?_
        · refine RegOp.one (i := 3) rfl rfl rfl rfl (Does.call rfl (copyType_ok hM (hT.ext hE) hm)) ?_
          rintro v1_3 H1_3 ⟨Ay, cy, rfl, hGy, hE1_3⟩
          have z1_3 := hE1_3.lt
          replace hE := hE.ext hE1_3
          replace o0_0 := o0_0.ext hE1_3
          replace o0_1 := o0_1.ext hE1_3
          replace hSx := hSx.ext hE1_3
          replace o1_4 := o1_4.ext hE1_3
          have hSy := own_sl (wide9 hM) (by decide) hGy
          have hgy := hGy.lt
          have z_hSy := hSy.lt
          refine ⟨fun _ _ => (Bks.cons o0_0.blk (Bks.cons o0_1.blk Bks.nil)), ?_⟩
          refine RegD.one (i := 5) (by kernel_rfl) rfl rfl rfl rfl (Does.alloc zc25) ?_
          rintro _ H1_5 ⟨rfl, hn1_5⟩
          have z1_5 := hn1_5.size
          replace hE := hE.ext hn1_5.ext
          replace o0_0 := o0_0.ext hn1_5.ext
          replace o0_1 := o0_1.ext hn1_5.ext
          replace hSx := hSx.ext hn1_5.ext
          replace o1_4 := o1_4.ext hn1_5.ext
          replace hSy := hSy.ext hn1_5.ext
          have o1_5 := hn1_5.own
          refine ⟨fun _ _ => (Bks.cons o0_0.blk (Bks.cons o0_1.blk Bks.nil)), ?_⟩
          refine RegD.one0 (i := 6) (by kernel_rfl) rfl rfl rfl (Does.stn ag25 rfl rfl (by first | rfl | exact ones_Is _) (by first | rfl | (simp [*]; done)) o1_4 (by first | decide | (simp; done) | (simp; omega) | omega)) ?_
          rintro _ H1_6 hu1_6
          have z1_6 := hu1_6.size
          replace hE := hE.upw hu1_6 (by omega)
          replace o0_0 := o0_0.upw hu1_6 (by omega)
          replace o0_1 := o0_1.upw hu1_6 (by omega)
          replace hSx := hSx.upw hu1_6 (by omega)
          replace hSy := hSy.upw hu1_6 (by omega)
          replace o1_5 := o1_5.upw hu1_6 (by omega)
          replace o1_4 := hu1_6.own
          first | rw [over (by first | rfl | (simp; done))] at o1_4 | skip
          refine ⟨fun _ _ => (Bks.cons o0_0.blk (Bks.cons o0_1.blk Bks.nil)), ?_⟩
          refine RegD.one0 (i := 7) (by kernel_rfl) rfl rfl rfl (Does.stn ag25 rfl rfl (by first | rfl | exact ones_Is _) (by first | rfl | (simp [*]; done)) o1_5 (by first | decide | (simp; done) | (simp; omega) | omega)) ?_
          rintro _ H1_7 hu1_7
          have z1_7 := hu1_7.size
          replace hE := hE.upw hu1_7 (by omega)
          replace o0_0 := o0_0.upw hu1_7 (by omega)
          replace o0_1 := o0_1.upw hu1_7 (by omega)
          replace hSx := hSx.upw hu1_7 (by omega)
          replace o1_4 := o1_4.upw hu1_7 (by omega)
          replace hSy := hSy.upw hu1_7 (by omega)
          replace o1_5 := hu1_7.own
          first | rw [over (by first | rfl | (simp; done))] at o1_5 | skip
          refine ⟨fun h => (by cases h), ?_⟩
          refine RegD.done (by kernel_rfl) ?_
          exact ⟨(Ax, cx, Ay, cy, _, _), ⟨o1_4, hSx, o1_5, hSy, o0_0, o0_1, hE⟩, ⟨rfl, rfl, rfl, rfl, rfl, trivial⟩⟩
        refine RegOp.one (i := 5) rfl rfl rfl rfl (Does.alloc zc25) ?_
        rintro _ H1_5 ⟨rfl, hn1_5⟩
        have z1_5 := hn1_5.size
        replace hE := hE.ext hn1_5.ext
        replace o0_0 := o0_0.ext hn1_5.ext
        replace o0_1 := o0_1.ext hn1_5.ext
        replace hSx := hSx.ext hn1_5.ext
        replace o1_4 := o1_4.ext hn1_5.ext
        have o1_5 := hn1_5.own
        refine ⟨fun _ _ => (Bks.cons o0_0.blk (Bks.cons o0_1.blk Bks.nil)), ?_⟩
        refine RegD.one (i := 3) (by kernel_rfl) rfl rfl rfl rfl (Does.call rfl (copyType_ok hM (hT.ext hE) hm)) ?_
        rintro v1_3 H1_3 ⟨Ay, cy, rfl, hGy, hE1_3⟩
        have z1_3 := hE1_3.lt
        replace hE := hE.ext hE1_3
        replace o0_0 := o0_0.ext hE1_3
        replace o0_1 := o0_1.ext hE1_3
        replace hSx := hSx.ext hE1_3
        replace o1_4 := o1_4.ext hE1_3
        replace o1_5 := o1_5.ext hE1_3
        have hSy := own_sl (wide9 hM) (by decide) hGy
        have hgy := hGy.lt
        have z_hSy := hSy.lt
        refine ⟨fun _ _ => (Bks.cons o0_0.blk (Bks.cons o0_1.blk Bks.nil)), ?_⟩
        refine RegD.one0 (i := 6) (by kernel_rfl) rfl rfl rfl (Does.stn ag25 rfl rfl (by first | rfl | exact ones_Is _) (by first | rfl | (simp [*]; done)) o1_4 (by first | decide | (simp; done) | (simp; omega) | omega)) ?_
        rintro _ H1_6 hu1_6
        have z1_6 := hu1_6.size
        replace hE := hE.upw hu1_6 (by omega)
        replace o0_0 := o0_0.upw hu1_6 (by omega)
        replace o0_1 := o0_1.upw hu1_6 (by omega)
        replace hSx := hSx.upw hu1_6 (by omega)
        replace o1_5 := o1_5.upw hu1_6 (by omega)
        replace hSy := hSy.upw hu1_6 (by omega)
        replace o1_4 := hu1_6.own
        first | rw [over (by first | rfl | (simp; done))] at o1_4 | skip
        refine ⟨fun _ _ => (Bks.cons o0_0.blk (Bks.cons o0_1.blk Bks.nil)), ?_⟩
        refine RegD.one0 (i := 7) (by kernel_rfl) rfl rfl rfl (Does.stn ag25 rfl rfl (by first | rfl | exact ones_Is _) (by first | rfl | (simp [*]; done)) o1_5 (by first | decide | (simp; done) | (simp; omega) | omega)) ?_
        rintro _ H1_7 hu1_7
        have z1_7 := hu1_7.size
        replace hE := hE.upw hu1_7 (by omega)
        replace o0_0 := o0_0.upw hu1_7 (by omega)
        replace o0_1 := o0_1.upw hu1_7 (by omega)
        replace hSx := hSx.upw hu1_7 (by omega)
        replace o1_4 := o1_4.upw hu1_7 (by omega)
        replace hSy := hSy.upw hu1_7 (by omega)
        replace o1_5 := hu1_7.own
        first | rw [over (by first | rfl | (simp; done))] at o1_5 | skip
        refine ⟨fun h => (by cases h), ?_⟩
        refine RegD.done (by kernel_rfl) ?_
        exact ⟨(Ax, cx, Ay, cy, _, _), ⟨o1_4, hSx, o1_5, hSy, o0_0, o0_1, hE⟩, ⟨rfl, rfl, rfl, rfl, rfl, trivial⟩⟩
      refine RegOp.one (i := 5) rfl rfl rfl rfl (Does.alloc zc25) ?_
      rintro _ H1_5 ⟨rfl, hn1_5⟩
      have z1_5 := hn1_5.size
      replace hE := hE.ext hn1_5.ext
      replace o0_0 := o0_0.ext hn1_5.ext
      replace o0_1 := o0_1.ext hn1_5.ext
      replace hSx := hSx.ext hn1_5.ext
      have o1_5 := hn1_5.own
      refine ⟨fun _ _ => (Bks.cons o0_0.blk (Bks.cons o0_1.blk Bks.nil)), ?_⟩
      refine RegD.fork2 (i := 3) (j := 4) (by kernel_rfl) ?_ ?_
      · refine RegOp.one (i := 3) rfl rfl rfl rfl (Does.call rfl (copyType_ok hM (hT.ext hE) hm)) ?_
        rintro v1_3 H1_3 ⟨Ay, cy, rfl, hGy, hE1_3⟩
        have z1_3 := hE1_3.lt
        replace hE := hE.ext hE1_3
        replace o0_0 := o0_0.ext hE1_3
        replace o0_1 := o0_1.ext hE1_3
        replace hSx := hSx.ext hE1_3
        replace o1_5 := o1_5.ext hE1_3
        have hSy := own_sl (wide9 hM) (by decide) hGy
        have hgy := hGy.lt
        have z_hSy := hSy.lt
        refine ⟨fun _ _ => (Bks.cons o0_0.blk (Bks.cons o0_1.blk Bks.nil)), ?_⟩
        refine RegD.one (i := 4) (by kernel_rfl) rfl rfl rfl rfl (Does.alloc zc25) ?_
        rintro _ H1_4 ⟨rfl, hn1_4⟩
        have z1_4 := hn1_4.size
        replace hE := hE.ext hn1_4.ext
        replace o0_0 := o0_0.ext hn1_4.ext
        replace o0_1 := o0_1.ext hn1_4.ext
        replace hSx := hSx.ext hn1_4.ext
        replace o1_5 := o1_5.ext hn1_4.ext
        replace hSy := hSy.ext hn1_4.ext
        have o1_4 := hn1_4.own
        refine ⟨fun _ _ => (Bks.cons o0_0.blk (Bks.cons o0_1.blk Bks.nil)), ?_⟩
        refine RegD.one0 (i := 6) (by kernel_rfl) rfl rfl rfl (Does.stn ag25 rfl rfl (by first | rfl | exact ones_Is _) (by first | rfl | (simp [*]; done)) o1_4 (by first | decide | (simp; done) | (simp; omega) | omega)) ?_
        rintro _ H1_6 hu1_6
        have z1_6 := hu1_6.size
        replace hE := hE.upw hu1_6 (by omega)
        replace o0_0 := o0_0.upw hu1_6 (by omega)
        replace o0_1 := o0_1.upw hu1_6 (by omega)
        replace hSx := hSx.upw hu1_6 (by omega)
        replace o1_5 := o1_5.upw hu1_6 (by omega)
        replace hSy := hSy.upw hu1_6 (by omega)
        replace o1_4 := hu1_6.own
        first | rw [over (by first | rfl | (simp; done))] at o1_4 | skip
        refine ⟨fun _ _ => (Bks.cons o0_0.blk (Bks.cons o0_1.blk Bks.nil)), ?_⟩
        refine RegD.one0 (i := 7) (by kernel_rfl) rfl rfl rfl (Does.stn ag25 rfl rfl (by first | rfl | exact ones_Is _) (by first | rfl | (simp [*]; done)) o1_5 (by first | decide | (simp; done) | (simp; omega) | omega)) ?_
        rintro _ H1_7 hu1_7
        have z1_7 := hu1_7.size
        replace hE := hE.upw hu1_7 (by omega)
        replace o0_0 := o0_0.upw hu1_7 (by omega)
        replace o0_1 := o0_1.upw hu1_7 (by omega)
        replace hSx := hSx.upw hu1_7 (by omega)
        replace hSy := hSy.upw hu1_7 (by omega)
        replace o1_4 := o1_4.upw hu1_7 (by omega)
        replace o1_5 := hu1_7.own
        first | rw [over (by first | rfl | (simp; done))] at o1_5 | skip
        refine ⟨fun h => (by cases h), ?_⟩
        refine RegD.done (by kernel_rfl) ?_
        exact ⟨(Ax, cx, Ay, cy, _, _), ⟨o1_4, hSx, o1_5, hSy, o0_0, o0_1, hE⟩, ⟨rfl, rfl, rfl, rfl, rfl, trivial⟩⟩
      refine RegOp.one (i := 4) rfl rfl rfl rfl (Does.alloc zc25) ?_
      rintro _ H1_4 ⟨rfl, hn1_4⟩
      have z1_4 := hn1_4.size
      replace hE := hE.ext hn1_4.ext
      replace o0_0 := o0_0.ext hn1_4.ext
      replace o0_1 := o0_1.ext hn1_4.ext
      replace hSx := hSx.ext hn1_4.ext
      replace o1_5 := o1_5.ext hn1_4.ext
      have o1_4 := hn1_4.own
      refine ⟨fun _ _ => (Bks.cons o0_0.blk (Bks.cons o0_1.blk Bks.nil)), ?_⟩
      refine RegD.one (i := 3) (by kernel_rfl) rfl rfl rfl rfl (Does.call rfl (copyType_ok hM (hT.ext hE) hm)) ?_
      rintro v1_3 H1_3 ⟨Ay, cy, rfl, hGy, hE1_3⟩
      have z1_3 := hE1_3.lt
      replace hE := hE.ext hE1_3
      replace o0_0 := o0_0.ext hE1_3
      replace o0_1 := o0_1.ext hE1_3
      replace hSx := hSx.ext hE1_3
      replace o1_5 := o1_5.ext hE1_3
      replace o1_4 := o1_4.ext hE1_3
      have hSy := own_sl (wide9 hM) (by decide) hGy
      have hgy := hGy.lt
      have z_hSy := hSy.lt
      refine ⟨fun _ _ => (Bks.cons o0_0.blk (Bks.cons o0_1.blk Bks.nil)), ?_⟩
      refine RegD.one0 (i := 6) (by kernel_rfl) rfl rfl rfl (Does.stn ag25 rfl rfl (by first | rfl | exact ones_Is _) (by first | rfl | (simp [*]; done)) o1_4 (by first | decide | (simp; done) | (simp; omega) | omega)) ?_
      rintro _ H1_6 hu1_6
      have z1_6 := hu1_6.size
      replace hE := hE.upw hu1_6 (by omega)
      replace o0_0 := o0_0.upw hu1_6 (by omega)
      replace o0_1 := o0_1.upw hu1_6 (by omega)
      replace hSx := hSx.upw hu1_6 (by omega)
      replace o1_5 := o1_5.upw hu1_6 (by omega)
      replace hSy := hSy.upw hu1_6 (by omega)
      replace o1_4 := hu1_6.own
      first | rw [over (by first | rfl | (simp; done))] at o1_4 | skip
      refine ⟨fun _ _ => (Bks.cons o0_0.blk (Bks.cons o0_1.blk Bks.nil)), ?_⟩
      refine RegD.one0 (i := 7) (by kernel_rfl) rfl rfl rfl (Does.stn ag25 rfl rfl (by first | rfl | exact ones_Is _) (by first | rfl | (simp [*]; done)) o1_5 (by first | decide | (simp; done) | (simp; omega) | omega)) ?_
      rintro _ H1_7 hu1_7
      have z1_7 := hu1_7.size
      replace hE := hE.upw hu1_7 (by omega)
      replace o0_0 := o0_0.upw hu1_7 (by omega)
      replace o0_1 := o0_1.upw hu1_7 (by omega)
      replace hSx := hSx.upw hu1_7 (by omega)
      replace o1_4 := o1_4.upw hu1_7 (by omega)
      replace hSy := hSy.upw hu1_7 (by omega)
      replace o1_5 := hu1_7.own
      first | rw [over (by first | rfl | (simp; done))] at o1_5 | skip
      refine ⟨fun h => (by cases h), ?_⟩
      refine RegD.done (by kernel_rfl) ?_
      exact ⟨(Ax, cx, Ay, cy, _, _), ⟨o1_4, hSx, o1_5, hSy, o0_0, o0_1, hE⟩, ⟨rfl, rfl, rfl, rfl, rfl, trivial⟩⟩
    · refine RegOp.one (i := 4) rfl rfl rfl rfl (Does.alloc zc25) ?_
      rintro _ H1_4 ⟨rfl, hn1_4⟩
      have z1_4 := hn1_4.size
      replace hE := hE.ext hn1_4.ext
      replace o0_0 := o0_0.ext hn1_4.ext
      replace o0_1 := o0_1.ext hn1_4.ext
      have o1_4 := hn1_4.own
      refine ⟨fun _ _ => (Bks.cons o0_0.blk (Bks.cons o0_1.blk Bks.nil)), ?_⟩
      refine RegD.fork2 (i := 1) (j := 5) (by kernel_rfl) ?_ ?_
      · refine RegOp.one (i := 1) rfl rfl rfl rfl (Does.call rfl (copyType_ok hL (hS.ext hE) hl)) ?_
        rintro v1_1 H1_1 ⟨Ax, cx, rfl, hGx, hE1_1⟩
        have z1_1 := hE1_1.lt
        replace hE := hE.ext hE1_1
        replace o0_0 := o0_0.ext hE1_1
        replace o0_1 := o0_1.ext hE1_1
        replace o1_4 := o1_4.ext hE1_1
        have hSx := own_sl (wide9 hL) (by decide) hGx
        have hgx := hGx.lt
        have z_hSx := hSx.lt
        refine ⟨fun _ _ => (Bks.cons o0_0.blk (Bks.cons o0_1.blk Bks.nil)), ?_⟩
        refine RegD.fork2 (i := 3) (j := 5) (by kernel_rfl) ?_ ?_
        · refine RegOp.one (i := 3) rfl rfl rfl rfl (Does.call rfl (copyType_ok hM (hT.ext hE) hm)) ?_
          rintro v1_3 H1_3 ⟨Ay, cy, rfl, hGy, hE1_3⟩
          have z1_3 := hE1_3.lt
          replace hE := hE.ext hE1_3
          replace o0_0 := o0_0.ext hE1_3
          replace o0_1 := o0_1.ext hE1_3
          replace o1_4 := o1_4.ext hE1_3
          replace hSx := hSx.ext hE1_3
          have hSy := own_sl (wide9 hM) (by decide) hGy
          have hgy := hGy.lt
          have z_hSy := hSy.lt
          refine ⟨fun _ _ => (Bks.cons o0_0.blk (Bks.cons o0_1.blk Bks.nil)), ?_⟩
          refine RegD.one (i := 5) (by kernel_rfl) rfl rfl rfl rfl (Does.alloc zc25) ?_
          rintro _ H1_5 ⟨rfl, hn1_5⟩
          have z1_5 := hn1_5.size
          replace hE := hE.ext hn1_5.ext
          replace o0_0 := o0_0.ext hn1_5.ext
          replace o0_1 := o0_1.ext hn1_5.ext
          replace o1_4 := o1_4.ext hn1_5.ext
          replace hSx := hSx.ext hn1_5.ext
          replace hSy := hSy.ext hn1_5.ext
          have o1_5 := hn1_5.own
          refine ⟨fun _ _ => (Bks.cons o0_0.blk (Bks.cons o0_1.blk Bks.nil)), ?_⟩
          refine RegD.one0 (i := 6) (by kernel_rfl) rfl rfl rfl (Does.stn ag25 rfl rfl (by first | rfl | exact ones_Is _) (by first | rfl | (simp [*]; done)) o1_4 (by first | decide | (simp; done) | (simp; omega) | omega)) ?_
          rintro _ H1_6 hu1_6
          have z1_6 := hu1_6.size
          replace hE := hE.upw hu1_6 (by omega)
          replace o0_0 := o0_0.upw hu1_6 (by omega)
          replace o0_1 := o0_1.upw hu1_6 (by omega)
          replace hSx := hSx.upw hu1_6 (by omega)
          replace hSy := hSy.upw hu1_6 (by omega)
          replace o1_5 := o1_5.upw hu1_6 (by omega)
          replace o1_4 := hu1_6.own
          first | rw [over (by first | rfl | (simp; done))] at o1_4 | skip
          refine ⟨fun _ _ => (Bks.cons o0_0.blk (Bks.cons o0_1.blk Bks.nil)), ?_⟩
          refine RegD.one0 (i := 7) (by kernel_rfl) rfl rfl rfl (Does.stn ag25 rfl rfl (by first | rfl | exact ones_Is _) (by first | rfl | (simp [*]; done)) o1_5 (by first | decide | (simp; done) | (simp; omega) | omega)) ?_
          rintro _ H1_7 hu1_7
          have z1_7 := hu1_7.size
          replace hE := hE.upw hu1_7 (by omega)
          replace o0_0 := o0_0.upw hu1_7 (by omega)
          replace o0_1 := o0_1.upw hu1_7 (by omega)
          replace o1_4 := o1_4.upw hu1_7 (by omega)
          replace hSx := hSx.upw hu1_7 (by omega)
          replace hSy := hSy.upw hu1_7 (by omega)
          replace o1_5 := hu1_7.own
          first | rw [over (by first | rfl | (simp; done))] at o1_5 | skip
          refine ⟨fun h => (by cases h), ?_⟩
          refine RegD.done (by kernel_rfl) ?_
          exact ⟨(Ax, cx, Ay, cy, _, _), ⟨o1_4, hSx, o1_5, hSy, o0_0, o0_1, hE⟩, ⟨rfl, rfl, rfl, rfl, rfl, trivial⟩⟩
        refine RegOp.one (i := 5) rfl rfl rfl rfl (Does.alloc zc25) ?_
        rintro _ H1_5 ⟨rfl, hn1_5⟩
        have z1_5 := hn1_5.size
        replace hE := hE.ext hn1_5.ext
        replace o0_0 := o0_0.ext hn1_5.ext
        replace o0_1 := o0_1.ext hn1_5.ext
        replace o1_4 := o1_4.ext hn1_5.ext
        replace hSx := hSx.ext hn1_5.ext
        have o1_5 := hn1_5.own
        refine ⟨fun _ _ => (Bks.cons o0_0.blk (Bks.cons o0_1.blk Bks.nil)), ?_⟩
        refine RegD.one (i := 3) (by kernel_rfl) rfl rfl rfl rfl (Does.call rfl (copyType_ok hM (hT.ext hE) hm)) ?_
        rintro v1_3 H1_3 ⟨Ay, cy, rfl, hGy, hE1_3⟩
        have z1_3 := hE1_3.lt
        replace hE := hE.ext hE1_3
        replace o0_0 := o0_0.ext hE1_3
        replace o0_1 := o0_1.ext hE1_3
        replace o1_4 := o1_4.ext hE1_3
        replace hSx := hSx.ext hE1_3
        replace o1_5 := o1_5.ext hE1_3
        have hSy := own_sl (wide9 hM) (by decide) hGy
        have hgy := hGy.lt
        have z_hSy := hSy.lt
        refine ⟨fun _ _ => (Bks.cons o0_0.blk (Bks.cons o0_1.blk Bks.nil)), ?_⟩
        refine RegD.one0 (i := 6) (by kernel_rfl) rfl rfl rfl (Does.stn ag25 rfl rfl (by first | rfl | exact ones_Is _) (by first | rfl | (simp [*]; done)) o1_4 (by first | decide | (simp; done) | (simp; omega) | omega)) ?_
        rintro _ H1_6 hu1_6
        have z1_6 := hu1_6.size
        replace hE := hE.upw hu1_6 (by omega)
        replace o0_0 := o0_0.upw hu1_6 (by omega)
        replace o0_1 := o0_1.upw hu1_6 (by omega)
        replace hSx := hSx.upw hu1_6 (by omega)
        replace o1_5 := o1_5.upw hu1_6 (by omega)
        replace hSy := hSy.upw hu1_6 (by omega)
        replace o1_4 := hu1_6.own
        first | rw [over (by first | rfl | (simp; done))] at o1_4 | skip
        refine ⟨fun _ _ => (Bks.cons o0_0.blk (Bks.cons o0_1.blk Bks.nil)), ?_⟩
        refine RegD.one0 (i := 7) (by kernel_rfl) rfl rfl rfl (Does.stn ag25 rfl rfl (by first | rfl | exact ones_Is _) (by first | rfl | (simp [*]; done)) o1_5 (by first | decide | (simp; done) | (simp; omega) | omega)) ?_
        rintro _ H1_7 hu1_7
        have z1_7 := hu1_7.size
        replace hE := hE.upw hu1_7 (by omega)
        replace o0_0 := o0_0.upw hu1_7 (by omega)
        replace o0_1 := o0_1.upw hu1_7 (by omega)
        replace o1_4 := o1_4.upw hu1_7 (by omega)
        replace hSx := hSx.upw hu1_7 (by omega)
        replace hSy := hSy.upw hu1_7 (by omega)
        replace o1_5 := hu1_7.own
        first | rw [over (by first | rfl | (simp; done))] at o1_5 | skip
        refine ⟨fun h => (by cases h), ?_⟩
        refine RegD.done (by kernel_rfl) ?_
        exact ⟨(Ax, cx, Ay, cy, _, _), ⟨o1_4, hSx, o1_5, hSy, o0_0, o0_1, hE⟩, ⟨rfl, rfl, rfl, rfl, rfl, trivial⟩⟩
      refine RegOp.one (i := 5) rfl rfl rfl rfl (Does.alloc zc25) ?_
      rintro _ H1_5 ⟨rfl, hn1_5⟩
      have z1_5 := hn1_5.size
      replace hE := hE.ext hn1_5.ext
      replace o0_0 := o0_0.ext hn1_5.ext
      replace o0_1 := o0_1.ext hn1_5.ext
      replace o1_4 := o1_4.ext hn1_5.ext
      have o1_5 := hn1_5.own
      refine ⟨fun _ _ => (Bks.cons o0_0.blk (Bks.cons o0_1.blk Bks.nil)), ?_⟩
      refine RegD.one (i := 1) (by kernel_rfl) rfl rfl rfl rfl (Does.call rfl (copyType_ok hL (hS.ext hE) hl)) ?_
      rintro v1_1 H1_1 ⟨Ax, cx, rfl, hGx, hE1_1⟩
      have z1_1 := hE1_1.lt
      replace hE := hE.ext hE1_1
      replace o0_0 := o0_0.ext hE1_1
      replace o0_1 := o0_1.ext hE1_1
      replace o1_4 := o1_4.ext hE1_1
      replace o1_5 := o1_5.ext hE1_1
      have hSx := own_sl (wide9 hL) (by decide) hGx
      have hgx := hGx.lt
      have z_hSx := hSx.lt
      refine ⟨fun _ _ => (Bks.cons o0_0.blk (Bks.cons o0_1.blk Bks.nil)), ?_⟩
      refine RegD.one (i := 3) (by kernel_rfl) rfl rfl rfl rfl (Does.call rfl (copyType_ok hM (hT.ext hE) hm)) ?_
      rintro v1_3 H1_3 ⟨Ay, cy, rfl, hGy, hE1_3⟩
      have z1_3 := hE1_3.lt
      replace hE := hE.ext hE1_3
      replace o0_0 := o0_0.ext hE1_3
      replace o0_1 := o0_1.ext hE1_3
      replace o1_4 := o1_4.ext hE1_3
      replace o1_5 := o1_5.ext hE1_3
      replace hSx := hSx.ext hE1_3
      have hSy := own_sl (wide9 hM) (by decide) hGy
      have hgy := hGy.lt
      have z_hSy := hSy.lt
      refine ⟨fun _ _ => (Bks.cons o0_0.blk (Bks.cons o0_1.blk Bks.nil)), ?_⟩
      refine RegD.one0 (i := 6) (by kernel_rfl) rfl rfl rfl (Does.stn ag25 rfl rfl (by first | rfl | exact ones_Is _) (by first | rfl | (simp [*]; done)) o1_4 (by first | decide | (simp; done) | (simp; omega) | omega)) ?_
      rintro _ H1_6 hu1_6
      have z1_6 := hu1_6.size
      replace hE := hE.upw hu1_6 (by omega)
      replace o0_0 := o0_0.upw hu1_6 (by omega)
      replace o0_1 := o0_1.upw hu1_6 (by omega)
      replace o1_5 := o1_5.upw hu1_6 (by omega)
      replace hSx := hSx.upw hu1_6 (by omega)
      replace hSy := hSy.upw hu1_6 (by omega)
      replace o1_4 := hu1_6.own
      first | rw [over (by first | rfl | (simp; done))] at o1_4 | skip
      refine ⟨fun _ _ => (Bks.cons o0_0.blk (Bks.cons o0_1.blk Bks.nil)), ?_⟩
      refine RegD.one0 (i := 7) (by kernel_rfl) rfl rfl rfl (Does.stn ag25 rfl rfl (by first | rfl | exact ones_Is _) (by first | rfl | (simp [*]; done)) o1_5 (by first | decide | (simp; done) | (simp; omega) | omega)) ?_
      rintro _ H1_7 hu1_7
      have z1_7 := hu1_7.size
      replace hE := hE.upw hu1_7 (by omega)
      replace o0_0 := o0_0.upw hu1_7 (by omega)
      replace o0_1 := o0_1.upw hu1_7 (by omega)
      replace o1_4 := o1_4.upw hu1_7 (by omega)
      replace hSx := hSx.upw hu1_7 (by omega)
      replace hSy := hSy.upw hu1_7 (by omega)
      replace o1_5 := hu1_7.own
      first | rw [over (by first | rfl | (simp; done))] at o1_5 | skip
      refine ⟨fun h => (by cases h), ?_⟩
      refine RegD.done (by kernel_rfl) ?_
      exact ⟨(Ax, cx, Ay, cy, _, _), ⟨o1_4, hSx, o1_5, hSy, o0_0, o0_1, hE⟩, ⟨rfl, rfl, rfl, rfl, rfl, trivial⟩⟩
    refine RegOp.one (i := 5) rfl rfl rfl rfl (Does.alloc zc25) ?_
    rintro _ H1_5 ⟨rfl, hn1_5⟩
    have z1_5 := hn1_5.size
    replace hE := hE.ext hn1_5.ext
    replace o0_0 := o0_0.ext hn1_5.ext
    replace o0_1 := o0_1.ext hn1_5.ext
    have o1_5 := hn1_5.own
    refine ⟨fun _ _ => (Bks.cons o0_0.blk (Bks.cons o0_1.blk Bks.nil)), ?_⟩
    refine RegD.fork2 (i := 1) (j := 4) (by kernel_rfl) ?_ ?_
    · refine RegOp.one (i := 1) rfl rfl rfl rfl (Does.call rfl (copyType_ok hL (hS.ext hE) hl)) ?_
      rintro v1_1 H1_1 ⟨Ax, cx, rfl, hGx, hE1_1⟩
      have z1_1 := hE1_1.lt
      replace hE := hE.ext hE1_1
      replace o0_0 := o0_0.ext hE1_1
      replace o0_1 := o0_1.ext hE1_1
      replace o1_5 := o1_5.ext hE1_1
      have hSx := own_sl (wide9 hL) (by decide) hGx
      have hgx := hGx.lt
      have z_hSx := hSx.lt
      refine ⟨fun _ _ => (Bks.cons o0_0.blk (Bks.cons o0_1.blk Bks.nil)), ?_⟩
      refine RegD.fork2 (i := 3) (j := 4) (by kernel_rfl) ?_ ?_
      · refine RegOp.one (i := 3) rfl rfl rfl rfl (Does.call rfl (copyType_ok hM (hT.ext hE) hm)) ?_
        rintro v1_3 H1_3 ⟨Ay, cy, rfl, hGy, hE1_3⟩
        have z1_3 := hE1_3.lt
        replace hE := hE.ext hE1_3
        replace o0_0 := o0_0.ext hE1_3
        replace o0_1 := o0_1.ext hE1_3
        replace o1_5 := o1_5.ext hE1_3
        replace hSx := hSx.ext hE1_3
        have hSy := own_sl (wide9 hM) (by decide) hGy
        have hgy := hGy.lt
        have z_hSy := hSy.lt
        refine ⟨fun _ _ => (Bks.cons o0_0.blk (Bks.cons o0_1.blk Bks.nil)), ?_⟩
        refine RegD.one (i := 4) (by kernel_rfl) rfl rfl rfl rfl (Does.alloc zc25) ?_
        rintro _ H1_4 ⟨rfl, hn1_4⟩
        have z1_4 := hn1_4.size
        replace hE := hE.ext hn1_4.ext
        replace o0_0 := o0_0.ext hn1_4.ext
        replace o0_1 := o0_1.ext hn1_4.ext
        replace o1_5 := o1_5.ext hn1_4.ext
        replace hSx := hSx.ext hn1_4.ext
        replace hSy := hSy.ext hn1_4.ext
        have o1_4 := hn1_4.own
        refine ⟨fun _ _ => (Bks.cons o0_0.blk (Bks.cons o0_1.blk Bks.nil)), ?_⟩
        refine RegD.one0 (i := 6) (by kernel_rfl) rfl rfl rfl (Does.stn ag25 rfl rfl (by first | rfl | exact ones_Is _) (by first | rfl | (simp [*]; done)) o1_4 (by first | decide | (simp; done) | (simp; omega) | omega)) ?_
        rintro _ H1_6 hu1_6
        have z1_6 := hu1_6.size
        replace hE := hE.upw hu1_6 (by omega)
        replace o0_0 := o0_0.upw hu1_6 (by omega)
        replace o0_1 := o0_1.upw hu1_6 (by omega)
        replace o1_5 := o1_5.upw hu1_6 (by omega)
        replace hSx := hSx.upw hu1_6 (by omega)
        replace hSy := hSy.upw hu1_6 (by omega)
        replace o1_4 := hu1_6.own
        first | rw [over (by first | rfl | (simp; done))] at o1_4 | skip
        refine ⟨fun _ _ => (Bks.cons o0_0.blk (Bks.cons o0_1.blk Bks.nil)), ?_⟩
        refine RegD.one0 (i := 7) (by kernel_rfl) rfl rfl rfl (Does.stn ag25 rfl rfl (by first | rfl | exact ones_Is _) (by first | rfl | (simp [*]; done)) o1_5 (by first | decide | (simp; done) | (simp; omega) | omega)) ?_
        rintro _ H1_7 hu1_7
        have z1_7 := hu1_7.size
        replace hE := hE.upw hu1_7 (by omega)
        replace o0_0 := o0_0.upw hu1_7 (by omega)
        replace o0_1 := o0_1.upw hu1_7 (by omega)
        replace hSx := hSx.upw hu1_7 (by omega)
        replace hSy := hSy.upw hu1_7 (by omega)
        replace o1_4 := o1_4.upw hu1_7 (by omega)
        replace o1_5 := hu1_7.own
        first | rw [over (by first | rfl | (simp; done))] at o1_5 | skip
        refine ⟨fun h => (by cases h), ?_⟩
        refine RegD.done (by kernel_rfl) ?_
        exact ⟨(Ax, cx, Ay, cy, _, _), ⟨o1_4, hSx, o1_5, hSy, o0_0, o0_1, hE⟩, ⟨rfl, rfl, rfl, rfl, rfl, trivial⟩⟩
      refine RegOp.one (i := 4) rfl rfl rfl rfl (Does.alloc zc25) ?_
      rintro _ H1_4 ⟨rfl, hn1_4⟩
      have z1_4 := hn1_4.size
      replace hE := hE.ext hn1_4.ext
      replace o0_0 := o0_0.ext hn1_4.ext
      replace o0_1 := o0_1.ext hn1_4.ext
      replace o1_5 := o1_5.ext hn1_4.ext
      replace hSx := hSx.ext hn1_4.ext
      have o1_4 := hn1_4.own
      refine ⟨fun _ _ => (Bks.cons o0_0.blk (Bks.cons o0_1.blk Bks.nil)), ?_⟩
      refine RegD.one (i := 3) (by kernel_rfl) rfl rfl rfl rfl (Does.call rfl (copyType_ok hM (hT.ext hE) hm)) ?_
      rintro v1_3 H1_3 ⟨Ay, cy, rfl, hGy, hE1_3⟩
      have z1_3 := hE1_3.lt
      replace hE := hE.ext hE1_3
      replace o0_0 := o0_0.ext hE1_3
      replace o0_1 := o0_1.ext hE1_3
      replace o1_5 := o1_5.ext hE1_3
      replace hSx := hSx.ext hE1_3
      replace o1_4 := o1_4.ext hE1_3
      have hSy := own_sl (wide9 hM) (by decide) hGy
      have hgy := hGy.lt
      have z_hSy := hSy.lt
      refine ⟨fun _ _ => (Bks.cons o0_0.blk (Bks.cons o0_1.blk Bks.nil)), ?_⟩
      refine RegD.one0 (i := 6) (by kernel_rfl) rfl rfl rfl (Does.stn ag25 rfl rfl (by first | rfl | exact ones_Is _) (by first | rfl | (simp [*]; done)) o1_4 (by first | decide | (simp; done) | (simp; omega) | omega)) ?_
      rintro _ H1_6 hu1_6
      have z1_6 := hu1_6.size
      replace hE := hE.upw hu1_6 (by omega)
      replace o0_0 := o0_0.upw hu1_6 (by omega)
      replace o0_1 := o0_1.upw hu1_6 (by omega)
      replace o1_5 := o1_5.upw hu1_6 (by omega)
      replace hSx := hSx.upw hu1_6 (by omega)
      replace hSy := hSy.upw hu1_6 (by omega)
      replace o1_4 := hu1_6.own
      first | rw [over (by first | rfl | (simp; done))] at o1_4 | skip
      refine ⟨fun _ _ => (Bks.cons o0_0.blk (Bks.cons o0_1.blk Bks.nil)), ?_⟩
      refine RegD.one0 (i := 7) (by kernel_rfl) rfl rfl rfl (Does.stn ag25 rfl rfl (by first | rfl | exact ones_Is _) (by first | rfl | (simp [*]; done)) o1_5 (by first | decide | (simp; done) | (simp; omega) | omega)) ?_
      rintro _ H1_7 hu1_7
      have z1_7 := hu1_7.size
      replace hE := hE.upw hu1_7 (by omega)
      replace o0_0 := o0_0.upw hu1_7 (by omega)
      replace o0_1 := o0_1.upw hu1_7 (by omega)
      replace hSx := hSx.upw hu1_7 (by omega)
      replace o1_4 := o1_4.upw hu1_7 (by omega)
      replace hSy := hSy.upw hu1_7 (by omega)
      replace o1_5 := hu1_7.own
      first | rw [over (by first | rfl | (simp; done))] at o1_5 | skip
      refine ⟨fun h => (by cases h), ?_⟩
      refine RegD.done (by kernel_rfl) ?_
      exact ⟨(Ax, cx, Ay, cy, _, _), ⟨o1_4, hSx, o1_5, hSy, o0_0, o0_1, hE⟩, ⟨rfl, rfl, rfl, rfl, rfl, trivial⟩⟩
    refine RegOp.one (i := 4) rfl rfl rfl rfl (Does.alloc zc25) ?_
    rintro _ H1_4 ⟨rfl, hn1_4⟩
    have z1_4 := hn1_4.size
    replace hE := hE.ext hn1_4.ext
    replace o0_0 := o0_0.ext hn1_4.ext
    replace o0_1 := o0_1.ext hn1_4.ext
    replace o1_5 := o1_5.ext hn1_4.ext
    have o1_4 := hn1_4.own
    refine ⟨fun _ _ => (Bks.cons o0_0.blk (Bks.cons o0_1.blk Bks.nil)), ?_⟩
    refine RegD.one (i := 1) (by kernel_rfl) rfl rfl rfl rfl (Does.call rfl (copyType_ok hL (hS.ext hE) hl)) ?_
    rintro v1_1 H1_1 ⟨Ax, cx, rfl, hGx, hE1_1⟩
    have z1_1 := hE1_1.lt
    replace hE := hE.ext hE1_1
    replace o0_0 := o0_0.ext hE1_1
    replace o0_1 := o0_1.ext hE1_1
    replace o1_5 := o1_5.ext hE1_1
    replace o1_4 := o1_4.ext hE1_1
    have hSx := own_sl (wide9 hL) (by decide) hGx
    have hgx := hGx.lt
    have z_hSx := hSx.lt
    refine ⟨fun _ _ => (Bks.cons o0_0.blk (Bks.cons o0_1.blk Bks.nil)), ?_⟩
    refine RegD.one (i := 3) (by kernel_rfl) rfl rfl rfl rfl (Does.call rfl (copyType_ok hM (hT.ext hE) hm)) ?_
    rintro v1_3 H1_3 ⟨Ay, cy, rfl, hGy, hE1_3⟩
    have z1_3 := hE1_3.lt
    replace hE := hE.ext hE1_3
    replace o0_0 := o0_0.ext hE1_3
    replace o0_1 := o0_1.ext hE1_3
    replace o1_5 := o1_5.ext hE1_3
    replace o1_4 := o1_4.ext hE1_3
    replace hSx := hSx.ext hE1_3
    have hSy := own_sl (wide9 hM) (by decide) hGy
    have hgy := hGy.lt
    have z_hSy := hSy.lt
    refine ⟨fun _ _ => (Bks.cons o0_0.blk (Bks.cons o0_1.blk Bks.nil)), ?_⟩
    refine RegD.one0 (i := 6) (by kernel_rfl) rfl rfl rfl (Does.stn ag25 rfl rfl (by first | rfl | exact ones_Is _) (by first | rfl | (simp [*]; done)) o1_4 (by first | decide | (simp; done) | (simp; omega) | omega)) ?_
    rintro _ H1_6 hu1_6
    have z1_6 := hu1_6.size
    replace hE := hE.upw hu1_6 (by omega)
    replace o0_0 := o0_0.upw hu1_6 (by omega)
    replace o0_1 := o0_1.upw hu1_6 (by omega)
    replace o1_5 := o1_5.upw hu1_6 (by omega)
    replace hSx := hSx.upw hu1_6 (by omega)
    replace hSy := hSy.upw hu1_6 (by omega)
    replace o1_4 := hu1_6.own
    first | rw [over (by first | rfl | (simp; done))] at o1_4 | skip
    refine ⟨fun _ _ => (Bks.cons o0_0.blk (Bks.cons o0_1.blk Bks.nil)), ?_⟩
    refine RegD.one0 (i := 7) (by kernel_rfl) rfl rfl rfl (Does.stn ag25 rfl rfl (by first | rfl | exact ones_Is _) (by first | rfl | (simp [*]; done)) o1_5 (by first | decide | (simp; done) | (simp; omega) | omega)) ?_
    rintro _ H1_7 hu1_7
    have z1_7 := hu1_7.size
    replace hE := hE.upw hu1_7 (by omega)
    replace o0_0 := o0_0.upw hu1_7 (by omega)
    replace o0_1 := o0_1.upw hu1_7 (by omega)
    replace o1_4 := o1_4.upw hu1_7 (by omega)
    replace hSx := hSx.upw hu1_7 (by omega)
    replace hSy := hSy.upw hu1_7 (by omega)
    replace o1_5 := hu1_7.own
    first | rw [over (by first | rfl | (simp; done))] at o1_5 | skip
    refine ⟨fun h => (by cases h), ?_⟩
    refine RegD.done (by kernel_rfl) ?_
    exact ⟨(Ax, cx, Ay, cy, _, _), ⟨o1_4, hSx, o1_5, hSy, o0_0, o0_1, hE⟩, ⟨rfl, rfl, rfl, rfl, rfl, trivial⟩⟩
  clear o0_0 o0_1 hE
  obtain ⟨Ax, cx, Ay, cy, b7, b8⟩ := s
  obtain ⟨o7, hSx, o8, hSy, o0_0, o0_1, hE⟩ := hs
  have z_hE := hE.lt
  have z_o7 := o7.lt
  have z_hSx := hSx.lt
  have z_o8 := o8.lt
  have z_hSy := hSy.lt
  have z_o0_0 := o0_0.lt
  have z_o0_1 := o0_1.lt
  refine At.region rfl rfl ?_
  refine Reg.lod rfl rfl rfl rfl (Lod.ldn ag25 rfl o7.blk (whole rfl) rfl) ?_
  refine Reg.lod rfl rfl rfl rfl (Lod.ldn ag25 rfl o8.blk (whole rfl) rfl) ?_
  refine Reg.pur rfl rfl rfl rfl (Pur.mv rfl) ?_
  refine Reg.op rfl rfl rfl rfl (Does.call rfl (unify_ok hL hM hSx hSy (by omega) (by omega) hr)) ?_
  rintro v2_3 H2_3 ⟨hU, hE2_3⟩
  have z2_3 := hE2_3.lt
  replace hE := hE.ext hE2_3
  replace o7 := o7.ext hE2_3
  replace hSx := hSx.ext hE2_3
  replace o8 := o8.ext hE2_3
  replace hSy := hSy.ext hE2_3
  replace o0_0 := o0_0.ext hE2_3
  replace o0_1 := o0_1.ext hE2_3
  obtain ⟨A2, k2, Bs, sb2, rfl, hSl⟩ := hU.un
  have z_hSl := hSl.lt
  refine Reg.pur rfl rfl rfl rfl (Pur.mv rfl) ?_
  refine Reg.pur rfl rfl rfl rfl (Pur.ext rfl rfl) ?_
  refine Reg.pur rfl rfl rfl rfl (Pur.ext rfl rfl) ?_
  refine Reg.pur rfl rfl rfl rfl (Pur.asg rfl) ?_
  refine Reg.pur rfl rfl rfl rfl (Pur.asg rfl) ?_
  refine Reg.nil ?_
  refine At.region rfl rfl ?_
  refine Reg.lod rfl rfl rfl rfl (Lod.ldn ag25 rfl o0_0.blk (whole rfl) rfl) ?_
  refine Reg.lod rfl rfl rfl rfl (Lod.ldn ag25 rfl o0_1.blk (whole rfl) rfl) ?_
  refine Reg.pur rfl rfl rfl rfl (Pur.mv rfl) ?_
  refine Reg.op rfl rfl rfl rfl (Does.call rfl (unifyR_ok hL hM (hS.ext hE) (hT.ext hE) (by omega) (by omega) hr)) ?_
  rintro v3_3 H3_3 ⟨hU', hE3_3⟩
  have z3_3 := hE3_3.lt
  replace hE := hE.ext hE3_3
  replace o7 := o7.ext hE3_3
  replace hSx := hSx.ext hE3_3
  replace o8 := o8.ext hE3_3
  replace hSy := hSy.ext hE3_3
  replace o0_0 := o0_0.ext hE3_3
  replace o0_1 := o0_1.ext hE3_3
  replace hSl := hSl.ext hE3_3
  obtain ⟨A3, k3, Cs, sb3, rfl, hSl'⟩ := hU'.un
  have z_hSl' := hSl'.lt
  refine Reg.pur rfl rfl rfl rfl (Pur.mv rfl) ?_
  refine Reg.pur rfl rfl rfl rfl (Pur.ext rfl rfl) ?_
  refine Reg.pur rfl rfl rfl rfl (Pur.ext rfl rfl) ?_
  refine Reg.pur rfl rfl rfl rfl (Pur.asg rfl) ?_
  refine Reg.pur rfl rfl rfl rfl (Pur.asg rfl) ?_
  refine Reg.nil ?_
  have hpl : Bs.map pl = Cs.map pl := by rw [hSl.pl, hSl'.pl]
  refine At.region rfl rfl ?_
  refine Reg.pur rfl rfl rfl rfl (Pur.mv rfl) ?_
  refine Reg.pur rfl rfl rfl rfl (Pur.mv rfl) ?_
  refine Reg.op rfl rfl rfl rfl (Does.call rfl (sameBinds_ok hSl.bds hSl'.bds)) ?_
  rintro _ H4_2 ⟨rfl, hE4_2⟩
  have z4_2 := hE4_2.lt
  replace hE := hE.ext hE4_2
  replace o7 := o7.ext hE4_2
  replace hSx := hSx.ext hE4_2
  replace o8 := o8.ext hE4_2
  replace hSy := hSy.ext hE4_2
  replace o0_0 := o0_0.ext hE4_2
  replace o0_1 := o0_1.ext hE4_2
  replace hSl := hSl.ext hE4_2
  replace hSl' := hSl'.ext hE4_2
  refine Reg.pur rfl rfl rfl rfl (Pur.not rfl) ?_
  refine Reg.pur rfl rfl rfl rfl (Pur.mv rfl) ?_
  refine Reg.known (b' := false) 35 rfl (by rw [decide_eq_true hpl]; rfl) ?_
  refine Reg.gpur rfl rfl rfl rfl rfl rfl (Pur.mv rfl) ?_
  refine Reg.gop rfl rfl rfl rfl rfl rfl (Does.call rfl (numE_ok _ _)) ?_
  rintro _ H4_2 ⟨rfl, rfl⟩
  refine Reg.gpur rfl rfl rfl rfl rfl rfl (Pur.mv rfl) ?_
  refine Reg.gpur rfl rfl rfl rfl rfl rfl (Pur.neq rfl rfl) ?_
  refine Reg.pur rfl rfl rfl rfl (Pur.pickF rfl rfl) ?_
  refine Reg.nil ?_
  refine At.condF rfl rfl (by simp) ?_
  refine At.region rfl rfl ?_
  refine Reg.pur rfl rfl rfl rfl (Pur.mv rfl) ?_

  refine Reg.op rfl rfl rfl rfl (Does.call rfl (spoilBinds_ok hSl)) ?_
  rintro w6_1 H6_1 hbut6_1
  have z6_1 := hbut6_1.lt
  replace hE := hE.via hbut6_1 (by first | omega | (intro g; omega) | (intro g hg; omega) | (intro g hg h; omega))
  replace o7 := o7.via hbut6_1 (by first | omega | (intro g; omega) | (intro g hg; omega) | (intro g hg h; omega))
  replace hSx := hSx.via hbut6_1 (by first | omega | (intro g; omega) | (intro g hg; omega) | (intro g hg h; omega))
  replace o8 := o8.via hbut6_1 (by first | omega | (intro g; omega) | (intro g hg; omega) | (intro g hg h; omega))
  replace hSy := hSy.via hbut6_1 (by first | omega | (intro g; omega) | (intro g hg; omega) | (intro g hg h; omega))
  replace o0_0 := o0_0.via hbut6_1 (by first | omega | (intro g; omega) | (intro g hg; omega) | (intro g hg h; omega))
  replace o0_1 := o0_1.via hbut6_1 (by first | omega | (intro g; omega) | (intro g hg; omega) | (intro g hg h; omega))
  refine Reg.nil ?_
  refine At.region rfl rfl ?_
  refine Reg.lod rfl rfl rfl rfl (Lod.ldn ag25 rfl o7.blk (whole rfl) rfl) ?_
  refine Reg.lod rfl rfl rfl rfl (Lod.ldn ag25 rfl o0_0.blk (whole rfl) rfl) ?_
  refine Reg.op rfl rfl rfl rfl (Does.call rfl (sameType_ok hL hL hSx (hS.ext hE) (by omega))) ?_
  rintro _ H7_2 ⟨rfl, hE7_2⟩
  have z7_2 := hE7_2.lt
  replace hE := hE.ext hE7_2
  replace o7 := o7.ext hE7_2
  replace hSx := hSx.ext hE7_2
  replace o8 := o8.ext hE7_2
  replace hSy := hSy.ext hE7_2
  replace o0_0 := o0_0.ext hE7_2
  replace o0_1 := o0_1.ext hE7_2
  refine Reg.pur rfl rfl rfl rfl (Pur.mv rfl) ?_
  refine Reg.known (b' := true) 46 rfl (by simp) ?_
  refine Reg.glod rfl rfl rfl rfl rfl rfl (Lod.ldn ag25 rfl o8.blk (whole rfl) rfl) ?_
  refine Reg.glod rfl rfl rfl rfl rfl rfl (Lod.ldn ag25 rfl o0_1.blk (whole rfl) rfl) ?_
  refine Reg.gop rfl rfl rfl rfl rfl rfl (Does.call rfl (sameType_ok hM hM hSy (hT.ext hE) (by omega))) ?_
  rintro _ H7_6 ⟨rfl, hE7_6⟩
  have z7_6 := hE7_6.lt
  replace hE := hE.ext hE7_6
  replace o7 := o7.ext hE7_6
  replace hSx := hSx.ext hE7_6
  replace o8 := o8.ext hE7_6
  replace hSy := hSy.ext hE7_6
  replace o0_0 := o0_0.ext hE7_6
  replace o0_1 := o0_1.ext hE7_6
  refine Reg.pur rfl rfl rfl rfl (Pur.pickT rfl rfl) ?_
  refine Reg.pur rfl rfl rfl rfl (Pur.mv rfl) ?_
  refine Reg.known (b' := true) 51 rfl (by simp) ?_
  refine Reg.gop rfl rfl rfl rfl rfl rfl (Does.call rfl (awake10_ok _)) ?_
  rintro _ H7_9 ⟨rfl, hE7_9⟩
  have z7_9 := hE7_9.lt
  replace hE := hE.ext hE7_9
  replace o7 := o7.ext hE7_9
  replace hSx := hSx.ext hE7_9
  replace o8 := o8.ext hE7_9
  replace hSy := hSy.ext hE7_9
  replace o0_0 := o0_0.ext hE7_9
  replace o0_1 := o0_1.ext hE7_9
  refine Reg.pur rfl rfl rfl rfl (Pur.pickT rfl rfl) ?_
  refine Reg.pur rfl rfl rfl rfl (Pur.asg rfl) ?_
  refine Reg.nil ?_
  refine At.ret rfl Try.func11 rfl ?_
  exact ⟨rfl, hE⟩
end Go.Proofs.Ytlfillhffpiffaa
