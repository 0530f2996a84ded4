/-
  Parts of the proof, 3.
-/
import Derived.Test.YtlfillhffpiffaaDoorRows
import Derived.Test.YtlfillhffpiffaaDoorCards
import Derived.Test.YtlfillhffpiffaaDoorTie
import Derived.ProofKit
import Derived.ChangeSame
import Derived.ChangeVars
import Derived.JoinedOf
import Derived.LaidLaws
import Derived.Handed
import Derived.SevenTiedAt
import Derived.SizedLaws
import Derived.Test.YtlfillhffpiffaaDoorV2
namespace Go.Proofs.YtlfillhffpiffaaDoor
set_option linter.unusedSimpArgs false
set_option linter.unusedVariables false
set_option maxRecDepth 8000
set_option maxHeartbeats 1000000
open Go Go.Fx Go.Proofs
namespace FactsDTyA
theorem ag24 : ag Tryd.prog 24 = some 5 := by kernel_rfl
theorem ag55 : ag Tryd.prog 55 = some 1 := by kernel_rfl
theorem arr22 : arr Tryd.prog 22 = some (4, 1) := by kernel_rfl
theorem fo24_0 : foff Tryd.prog 24 0 = some 0 := by kernel_rfl
theorem fo55_0 : foff Tryd.prog 55 0 = some 0 := by kernel_rfl
theorem isl53 : isSl Tryd.prog 53 = true := by kernel_rfl
theorem pl24 : places Tryd.prog 24 = some [(0, 4), (4, 1)] := by kernel_rfl
theorem pl55 : places Tryd.prog 55 = some [(0, 1)] := by kernel_rfl
theorem pl65 : places Tryd.prog 65 = some [(0, 1), (1, 1), (2, 1), (3, 1), (4, 5)] := by kernel_rfl
theorem sc3 : sc Tryd.prog 3 = true := by kernel_rfl
theorem sc53 : sc Tryd.prog 53 = true := by kernel_rfl
theorem sl1_50 : Go.Fx.sl1 Tryd.prog 50 = true := by kernel_rfl
theorem slA53 : slA Tryd.prog 53 = some (65, 9) := by kernel_rfl
theorem zc24 : zc Tryd.prog 24 = some [.int .i64 0, .int .i64 0, .int .i64 0, .int .i64 0, .int .i64 0] := by kernel_rfl
theorem zc55 : zc Tryd.prog 55 = some [.slice none 0 0] := by kernel_rfl
theorem zc65 : zc Tryd.prog 65 = some [.int .i64 0, .int .i64 0, .int .i64 0, .int .i64 0, .int .i64 0, .int .i64 0, .int .i64 0, .int .i64 0, .int .i64 0] := by kernel_rfl
end FactsDTyA
open FactsDTyA

abbrev tyT : Tm := .fn (.var 7) [0, 2, 0, 0, 3] (.var 7)
theorem tyOk : tyT.ok := ⟨⟨by decide, by decide⟩, rfl, rfl, ⟨by decide, by decide⟩⟩
theorem ty1 : funL [vNode 7] [0, 2, 0, 0, 3] [vNode 7] = (tyT.enc 0, 0) := by rw [funL_yes ⟨by decide, by decide, by decide, by decide⟩]; rfl
theorem ty2 : txV (tyT.enc 0) = (⟨#[40, 116, 48, 32, 45, 60, 111, 49, 44, 111, 49, 124, 101, 48, 62, 32, 116, 48, 41]⟩, 0) := by
  rw [txV_enc tyOk (by decide)]
  refine Prod.ext (WideShapes.bytes_inj ?_) rfl
  kernel_rfl
theorem ty3 : varsT (tyT.enc 0) = ([7], [3]) := by kernel_rfl
theorem ty4 : typM (tyT.enc 0) = true := enc_typ tyOk (by decide)
theorem awake7_ok {H : Heap} (hT : Tens H) : Ret Tryd.prog 50 [] H (fun v H' => v = .bool true ∧ Ext H H') := by
  have h9 := tyT.enc_nine 0 tyOk
  refine Ret.of_at (N := 88) Tryd.call50 Tryd.func50 rfl rfl rfl ?_
  have hE := Ext.refl H
  refine At.region rfl rfl ?_
  refine Reg.pur rfl rfl rfl rfl (Pur.asg rfl) ?_
  refine Reg.nil ?_
  refine At.region rfl rfl ?_
  refine Reg.pur rfl rfl rfl rfl (Pur.bld (cs := [_, _, _, _, _, _, _, _, _]) pl65 zc65 rfl rfl ⟨rfl, rfl, rfl, rfl, rfl, rfl, rfl, rfl, rfl, rfl⟩) ?_
  refine Reg.op rfl rfl rfl rfl (Does.bslA ([Is (vNode 7)]) slA53 rfl rfl rfl rfl rfl rfl) ?_
  rintro _ H1_1 ⟨rfl, hp1_1⟩
  have hn1_1 := New.of_eq hp1_1
  have z1_1 := hn1_1.size
  replace hE := hE.ext hn1_1.ext
  have o1_1 := hn1_1.own
  have hSv : SlT H1_1 Is 9 _ [vNode 7] := sl_own (L := [vNode 7]) (wide9 (nine_lit rfl)) (by decide) o1_1 (by decide)
  have z_hSv := hSv.lt
  refine Reg.pur rfl rfl rfl rfl (Pur.bld (cs := [_]) pl55 zc55 rfl rfl ⟨rfl, rfl⟩) ?_
  refine Reg.op rfl rfl rfl rfl (Does.alloc zc55) ?_
  rintro _ H1_3 ⟨rfl, hn1_3⟩
  have z1_3 := hn1_3.size
  replace hE := hE.ext hn1_3.ext
  replace o1_1 := o1_1.ext hn1_3.ext
  replace hSv := hSv.ext hn1_3.ext
  have o1_3 := hn1_3.own
  refine Reg.op0 rfl rfl rfl (Does.stn ag55 rfl rfl (by first | rfl | exact ones_Is _) (by first | rfl | (simp [*]; done)) o1_3 (by first | decide | (simp; done) | (simp; omega) | omega)) ?_
  rintro _ H1_4 hu1_4
  have z1_4 := hu1_4.size
  replace hE := hE.upw hu1_4 (by omega)
  replace o1_1 := o1_1.upw hu1_4 (by omega)
  replace hSv := hSv.upw hu1_4 (by omega)
  replace o1_3 := hu1_4.own
  first | rw [over (by first | rfl | (simp; done))] at o1_3 | skip
  refine Reg.nil ?_
  refine At.region rfl rfl ?_
  refine Reg.pur rfl rfl rfl rfl (Pur.bld (cs := [_, _, _, _, _]) pl24 zc24 rfl rfl ⟨rfl, rfl, rfl, rfl, rfl, rfl⟩) ?_
  refine Reg.op rfl rfl rfl rfl (Does.alloc zc24) ?_
  rintro _ H2_1 ⟨rfl, hn2_1⟩
  have z2_1 := hn2_1.size
  replace hE := hE.ext hn2_1.ext
  replace o1_1 := o1_1.ext hn2_1.ext
  replace hSv := hSv.ext hn2_1.ext
  replace o1_3 := o1_3.ext hn2_1.ext
  have o2_1 := hn2_1.own
  refine Reg.op0 rfl rfl rfl (Does.stn ag24 rfl rfl (by first | rfl | exact ones_Is _) (by first | rfl | (simp [*]; done)) o2_1 (by first | decide | (simp; done) | (simp; omega) | omega)) ?_
  rintro _ H2_2 hu2_2
  have z2_2 := hu2_2.size
  replace hE := hE.upw hu2_2 (by omega)
  replace o1_1 := o1_1.upw hu2_2 (by omega)
  replace hSv := hSv.upw hu2_2 (by omega)
  replace o1_3 := o1_3.upw hu2_2 (by omega)
  replace o2_1 := hu2_2.own
  first | rw [over (by first | rfl | (simp; done))] at o2_1 | skip
  refine Reg.nil ?_
  refine At.region rfl rfl ?_
  refine Reg.pur rfl rfl rfl rfl (Pur.fld _ fo24_0 rfl) ?_
  refine Reg.pur rfl rfl rfl rfl (Pur.idxP arr22 rfl rfl (by omega) (by omega)) ?_
  refine Reg.op0 rfl rfl rfl (Does.st sc3 rfl rfl rfl o2_1 (by first | decide | (simp; done) | (simp; omega) | omega)) ?_
  rintro _ H3_2 hu3_2
  have z3_2 := hu3_2.size
  replace hE := hE.upw hu3_2 (by omega)
  replace o1_1 := o1_1.upw hu3_2 (by omega)
  replace hSv := hSv.upw hu3_2 (by omega)
  replace o1_3 := o1_3.upw hu3_2 (by omega)
  replace o2_1 := hu3_2.own
  refine Reg.nil ?_
  refine At.region rfl rfl ?_
  refine Reg.lod rfl rfl rfl rfl (Lod.ldn ag55 rfl o1_3.blk (whole rfl) rfl) ?_
  refine Reg.lod rfl rfl rfl rfl (Lod.ldn ag24 rfl o2_1.blk (whole rfl) rfl) ?_
  refine Reg.lod rfl rfl rfl rfl (Lod.ldn ag55 rfl o1_3.blk (whole rfl) rfl) ?_
  refine Reg.op rfl rfl rfl rfl (Does.call rfl (funP_ok (La := [vNode 7]) (r := [0, 2, 0, 0, 3]) (Lb := [vNode 7]) (nine_lit rfl) (nine_lit rfl) rfl hSv hSv (by decide) (by decide))) ?_
  rintro v4_3 H4_3 ⟨A4, cap4, rfl, hg4_3, hE4_3⟩
  have z4_3 := hE4_3.lt
  replace hE := hE.ext hE4_3
  replace o1_1 := o1_1.ext hE4_3
  replace hSv := hSv.ext hE4_3
  replace o1_3 := o1_3.ext hE4_3
  replace o2_1 := o2_1.ext hE4_3
  rw [ty1] at hg4_3 ⊢
  have hSt := own_sl (wide9 h9) (by decide) hg4_3
  have z_hg4_3 := hg4_3.lt
  refine Reg.pur rfl rfl rfl rfl (Pur.mv rfl) ?_
  refine Reg.pur rfl rfl rfl rfl (Pur.ext rfl rfl) ?_
  refine Reg.pur rfl rfl rfl rfl (Pur.ext rfl rfl) ?_
  refine Reg.op rfl rfl rfl rfl (Does.alloc zc55) ?_
  rintro _ H4_7 ⟨rfl, hn4_7⟩
  have z4_7 := hn4_7.size
  replace hE := hE.ext hn4_7.ext
  replace o1_1 := o1_1.ext hn4_7.ext
  replace hSv := hSv.ext hn4_7.ext
  replace o1_3 := o1_3.ext hn4_7.ext
  replace o2_1 := o2_1.ext hn4_7.ext
  replace hg4_3 := hg4_3.ext hn4_7.ext
  have o4_7 := hn4_7.own
  refine Reg.op0 rfl rfl rfl (Does.stn ag55 rfl rfl (by first | rfl | exact ones_Is _) (by first | rfl | (simp [*]; done)) o4_7 (by first | decide | (simp; done) | (simp; omega) | omega)) ?_
  rintro _ H4_8 hu4_8
  have z4_8 := hu4_8.size
  replace hE := hE.upw hu4_8 (by omega)
  replace o1_1 := o1_1.upw hu4_8 (by omega)
  replace hSv := hSv.upw hu4_8 (by omega)
  replace o1_3 := o1_3.upw hu4_8 (by omega)
  replace o2_1 := o2_1.upw hu4_8 (by omega)
  replace hg4_3 := hg4_3.upw hu4_8 (by omega)
  replace o4_7 := hu4_8.own
  first | rw [over (by first | rfl | (simp; done))] at o4_7 | skip
  refine Reg.pur rfl rfl rfl rfl (Pur.asg rfl) ?_
  refine Reg.nil ?_
  refine At.region rfl rfl ?_
  refine Reg.lod rfl rfl rfl rfl (Lod.ldn ag55 rfl o4_7.blk (whole rfl) rfl) ?_
  refine Reg.op rfl rfl rfl rfl (Does.call rfl (typText_ok h9 (hT.ext hE) (own_sl (wide9 h9) (by decide) hg4_3) (by decide))) ?_
  rintro _ H5_1 ⟨rfl, hE5_1⟩
  have z5_1 := hE5_1.lt
  replace hE := hE.ext hE5_1
  replace o1_1 := o1_1.ext hE5_1
  replace hSv := hSv.ext hE5_1
  replace o1_3 := o1_3.ext hE5_1
  replace o2_1 := o2_1.ext hE5_1
  replace hg4_3 := hg4_3.ext hE5_1
  replace o4_7 := o4_7.ext hE5_1
  rw [ty2]
  refine Reg.pur rfl rfl rfl rfl (Pur.mv rfl) ?_
  refine Reg.pur rfl rfl rfl rfl (Pur.ext rfl rfl) ?_
  refine Reg.pur rfl rfl rfl rfl (Pur.ext rfl rfl) ?_
  refine Reg.pur rfl rfl rfl rfl (Pur.asg rfl) ?_
  refine Reg.pur rfl rfl rfl rfl (Pur.asg rfl) ?_
  refine Reg.nil ?_
  refine At.region rfl rfl ?_
  refine Reg.lod rfl rfl rfl rfl (Lod.ldn ag55 rfl o4_7.blk (whole rfl) rfl) ?_
  refine Reg.op rfl rfl rfl rfl (Does.call rfl (typVars_ok h9 (own_sl (wide9 h9) (by decide) hg4_3) (by decide))) ?_
  rintro v6_1 H6_1 ⟨hE6_1, Aa, ca, Ab, cb, rfl, hga, hgb⟩
  have z6_1 := hE6_1.lt
  replace hE := hE.ext hE6_1
  replace o1_1 := o1_1.ext hE6_1
  replace hSv := hSv.ext hE6_1
  replace o1_3 := o1_3.ext hE6_1
  replace o2_1 := o2_1.ext hE6_1
  replace hg4_3 := hg4_3.ext hE6_1
  replace o4_7 := o4_7.ext hE6_1
  rw [ty3] at hga hgb ⊢
  rw [ty4]
  have z_hga := hga.lt
  have z_hgb := hgb.lt
  refine Reg.pur rfl rfl rfl rfl (Pur.mv rfl) ?_
  refine Reg.pur rfl rfl rfl rfl (Pur.ext rfl rfl) ?_
  refine Reg.pur rfl rfl rfl rfl (Pur.ext rfl rfl) ?_
  refine Reg.pur rfl rfl rfl rfl (Pur.ext rfl rfl) ?_
  refine Reg.pur rfl rfl rfl rfl (Pur.asg rfl) ?_
  refine Reg.pur rfl rfl rfl rfl (Pur.asg rfl) ?_
  refine Reg.pur rfl rfl rfl rfl (Pur.asg rfl) ?_
  refine Reg.nil ?_
  refine At.region rfl rfl ?_
  refine Reg.pur rfl rfl rfl rfl (Pur.bld (cs := [_]) pl55 zc55 rfl rfl ⟨rfl, rfl⟩) ?_
  refine Reg.op rfl rfl rfl rfl (Does.call rfl (typText_ok (A := none) (cap := 0) (L := []) (nine_lit rfl) (hT.ext hE) (sl_nil _) (by decide))) ?_
  rintro _ H7_1 ⟨rfl, hE7_1⟩
  have z7_1 := hE7_1.lt
  replace hE := hE.ext hE7_1
  replace o1_1 := o1_1.ext hE7_1
  replace hSv := hSv.ext hE7_1
  replace o1_3 := o1_3.ext hE7_1
  replace o2_1 := o2_1.ext hE7_1
  replace hg4_3 := hg4_3.ext hE7_1
  replace o4_7 := o4_7.ext hE7_1
  replace hga := hga.ext hE7_1
  replace hgb := hgb.ext hE7_1
  rw [txV_no (L := []) (by decide)]
  refine Reg.pur rfl rfl rfl rfl (Pur.mv rfl) ?_
  refine Reg.pur rfl rfl rfl rfl (Pur.ext rfl rfl) ?_
  refine Reg.pur rfl rfl rfl rfl (Pur.ext rfl rfl) ?_
  refine Reg.pur rfl rfl rfl rfl (Pur.asg rfl) ?_
  refine Reg.pur rfl rfl rfl rfl (Pur.asg rfl) ?_
  refine Reg.nil ?_
  refine At.region rfl rfl ?_
  refine Reg.pur rfl rfl rfl rfl (Pur.fld _ fo55_0 rfl) ?_
  refine Reg.lod rfl rfl rfl rfl (Lod.ld sc53 rfl o4_7.blk rfl) ?_
  refine Reg.pur rfl rfl rfl rfl (Pur.lenS isl53 rfl) ?_
  refine Reg.pur rfl rfl rfl rfl (Pur.eql rfl rfl) ?_
  refine Reg.pur rfl rfl rfl rfl (Pur.mv rfl) ?_
  refine Reg.known (b' := true) 45 rfl (by first | rfl | decide | simp) ?_
  refine Reg.gpur rfl rfl rfl rfl rfl rfl (Pur.mv rfl) ?_
  refine Reg.gop rfl rfl rfl rfl rfl rfl (Does.call rfl (numE_ok _ _)) ?_
  rintro _ H7_1 ⟨rfl, rfl⟩
  refine Reg.gpur rfl rfl rfl rfl rfl rfl (Pur.eql rfl rfl) ?_
  refine Reg.pur rfl rfl rfl rfl (Pur.pickT rfl rfl) ?_
  refine Reg.pur rfl rfl rfl rfl (Pur.mv rfl) ?_
  refine Reg.known (b' := true) 50 rfl (by first | rfl | decide | simp) ?_
  refine Reg.gpur rfl rfl rfl rfl rfl rfl (Pur.mv rfl) ?_
  refine Reg.gpur rfl rfl rfl rfl rfl rfl (Pur.eqS rfl rfl) ?_
  refine Reg.pur rfl rfl rfl rfl (Pur.pickT rfl rfl) ?_
  refine Reg.pur rfl rfl rfl rfl (Pur.mv rfl) ?_
  refine Reg.known (b' := true) 54 rfl (by first | rfl | decide | simp) ?_
  refine Reg.gpur rfl rfl rfl rfl rfl rfl (Pur.mv rfl) ?_
  refine Reg.gop rfl rfl rfl rfl rfl rfl (Does.call rfl (numE_ok _ _)) ?_
  rintro _ H7_1 ⟨rfl, rfl⟩
  refine Reg.gpur rfl rfl rfl rfl rfl rfl (Pur.eql rfl rfl) ?_
  refine Reg.pur rfl rfl rfl rfl (Pur.pickT rfl rfl) ?_
  refine Reg.pur rfl rfl rfl rfl (Pur.mv rfl) ?_
  refine Reg.known (b' := true) 59 rfl (by first | rfl | decide | simp) ?_
  refine Reg.gpur rfl rfl rfl rfl rfl rfl (Pur.mv rfl) ?_
  refine Reg.gop rfl rfl rfl rfl rfl rfl (Does.bsl1 sl1_50 rfl rfl rfl rfl rfl) ?_
  rintro _ H8_20 ⟨rfl, hn8_20⟩
  have z8_20 := hn8_20.size
  replace hE := hE.ext hn8_20.ext
  replace o1_1 := o1_1.ext hn8_20.ext
  replace hSv := hSv.ext hn8_20.ext
  replace o1_3 := o1_3.ext hn8_20.ext
  replace o2_1 := o2_1.ext hn8_20.ext
  replace hg4_3 := hg4_3.ext hn8_20.ext
  replace o4_7 := o4_7.ext hn8_20.ext
  replace hga := hga.ext hn8_20.ext
  replace hgb := hgb.ext hn8_20.ext
  have o8_20 := hn8_20.own
  refine Reg.gop rfl rfl rfl rfl rfl rfl (Does.call rfl (sameI_ok [7] [7] (own_sl (wide1 _) (by decide) hga) (sl_own (L := [7]) (wide1 _) (by decide) o8_20 (by decide)) (by decide))) ?_
  rintro _ H8_20 ⟨rfl, rfl⟩
  refine Reg.pur rfl rfl rfl rfl (Pur.pickT rfl rfl) ?_
  refine Reg.pur rfl rfl rfl rfl (Pur.mv rfl) ?_
  refine Reg.known (b' := true) 64 rfl (by first | rfl | decide | simp) ?_
  refine Reg.gpur rfl rfl rfl rfl rfl rfl (Pur.mv rfl) ?_
  refine Reg.gop rfl rfl rfl rfl rfl rfl (Does.bsl1 sl1_50 rfl rfl rfl rfl rfl) ?_
  rintro _ H8_25 ⟨rfl, hn8_25⟩
  have z8_25 := hn8_25.size
  replace hE := hE.ext hn8_25.ext
  replace o1_1 := o1_1.ext hn8_25.ext
  replace hSv := hSv.ext hn8_25.ext
  replace o1_3 := o1_3.ext hn8_25.ext
  replace o2_1 := o2_1.ext hn8_25.ext
  replace hg4_3 := hg4_3.ext hn8_25.ext
  replace o4_7 := o4_7.ext hn8_25.ext
  replace hga := hga.ext hn8_25.ext
  replace hgb := hgb.ext hn8_25.ext
  replace o8_20 := o8_20.ext hn8_25.ext
  have o8_25 := hn8_25.own
  refine Reg.gop rfl rfl rfl rfl rfl rfl (Does.call rfl (sameI_ok [3] [3] (own_sl (wide1 _) (by decide) hgb) (sl_own (L := [3]) (wide1 _) (by decide) o8_25 (by decide)) (by decide))) ?_
  rintro _ H8_25 ⟨rfl, rfl⟩
  refine Reg.pur rfl rfl rfl rfl (Pur.pickT rfl rfl) ?_
  refine Reg.pur rfl rfl rfl rfl (Pur.mv rfl) ?_
  refine Reg.known (b' := true) 69 rfl (by first | rfl | decide | simp) ?_
  refine Reg.gpur rfl rfl rfl rfl rfl rfl (Pur.mv rfl) ?_
  refine Reg.gop rfl rfl rfl rfl rfl rfl (Does.call rfl (numE_ok _ _)) ?_
  rintro _ H8_25 ⟨rfl, rfl⟩
  refine Reg.gpur rfl rfl rfl rfl rfl rfl (Pur.eql rfl rfl) ?_
  refine Reg.pur rfl rfl rfl rfl (Pur.pickT rfl rfl) ?_
  refine Reg.pur rfl rfl rfl rfl (Pur.mv rfl) ?_
  refine Reg.known (b' := true) 74 rfl (by first | rfl | decide | simp) ?_
  refine Reg.gpur rfl rfl rfl rfl rfl rfl (Pur.mv rfl) ?_
  refine Reg.gop rfl rfl rfl rfl rfl rfl (Does.call rfl (numE_ok _ _)) ?_
  rintro _ H8_25 ⟨rfl, rfl⟩
  refine Reg.gpur rfl rfl rfl rfl rfl rfl (Pur.eql rfl rfl) ?_
  refine Reg.pur rfl rfl rfl rfl (Pur.pickT rfl rfl) ?_
  refine Reg.pur rfl rfl rfl rfl (Pur.mv rfl) ?_
  refine Reg.known (b' := true) 79 rfl (by first | rfl | decide | simp) ?_
  refine Reg.glod rfl rfl rfl rfl rfl rfl (Lod.ldn ag55 rfl o4_7.blk (whole rfl) rfl) ?_
  refine Reg.gop rfl rfl rfl rfl rfl rfl (Does.call rfl (typMay_ok _ h9 (own_sl (wide9 h9) (by decide) hg4_3) (by decide))) ?_
  rintro _ H8_40 ⟨rfl, hE8_40⟩
  have z8_40 := hE8_40.lt
  replace hE := hE.ext hE8_40
  replace o1_1 := o1_1.ext hE8_40
  replace hSv := hSv.ext hE8_40
  replace o1_3 := o1_3.ext hE8_40
  replace o2_1 := o2_1.ext hE8_40
  replace hg4_3 := hg4_3.ext hE8_40
  replace o4_7 := o4_7.ext hE8_40
  replace hga := hga.ext hE8_40
  replace hgb := hgb.ext hE8_40
  replace o8_20 := o8_20.ext hE8_40
  replace o8_25 := o8_25.ext hE8_40
  refine Reg.pur rfl rfl rfl rfl (Pur.pickT rfl rfl) ?_
  refine Reg.pur rfl rfl rfl rfl (Pur.mv rfl) ?_
  refine Reg.known (b' := true) 83 rfl (by first | rfl | decide | simp) ?_
  refine Reg.gpur rfl rfl rfl rfl rfl rfl (Pur.bld (cs := [_]) pl55 zc55 rfl rfl ⟨rfl, rfl⟩) ?_
  refine Reg.gop rfl rfl rfl rfl rfl rfl (Does.call rfl (typMay_ok (A := none) (cap := 0) [] (nine_lit rfl) (sl_nil _) (by decide))) ?_
  rintro _ H8_44 ⟨rfl, hE8_44⟩
  have z8_44 := hE8_44.lt
  replace hE := hE.ext hE8_44
  replace o1_1 := o1_1.ext hE8_44
  replace hSv := hSv.ext hE8_44
  replace o1_3 := o1_3.ext hE8_44
  replace o2_1 := o2_1.ext hE8_44
  replace hg4_3 := hg4_3.ext hE8_44
  replace o4_7 := o4_7.ext hE8_44
  replace hga := hga.ext hE8_44
  replace hgb := hgb.ext hE8_44
  replace o8_20 := o8_20.ext hE8_44
  replace o8_25 := o8_25.ext hE8_44
  refine Reg.gpur rfl rfl rfl rfl rfl rfl (Pur.not rfl) ?_
  refine Reg.pur rfl rfl rfl rfl (Pur.pickT rfl rfl) ?_
  refine Reg.pur rfl rfl rfl rfl (Pur.asg rfl) ?_
  refine Reg.nil ?_
  refine At.ret rfl Tryd.func50 rfl ?_
  exact ⟨rfl, hE⟩
end Go.Proofs.YtlfillhffpiffaaDoor

namespace Go.Proofs.YtlfillhffpiffaaDoor
set_option linter.unusedSimpArgs false
set_option linter.unusedVariables false
set_option maxRecDepth 8000
set_option maxHeartbeats 1000000
open Go Go.Fx Go.Proofs
namespace FactsDTyB
theorem ag24 : ag Tryd.prog 24 = some 5 := by kernel_rfl
theorem ag55 : ag Tryd.prog 55 = some 1 := by kernel_rfl
theorem fo109_0 : foff Tryd.prog 109 0 = some 0 := by kernel_rfl
theorem fo109_1 : foff Tryd.prog 109 1 = some 1 := by kernel_rfl
theorem mixed : Tryd.prog.follows .mixedOrders = true := by kernel_rfl
theorem pl109 : places Tryd.prog 109 = some [(0, 1), (1, 1)] := by kernel_rfl
theorem sc50 : sc Tryd.prog 50 = true := by kernel_rfl
theorem zc109 : zc Tryd.prog 109 = some [.slice none 0 0, .slice none 0 0] := by kernel_rfl
theorem zc55 : zc Tryd.prog 55 = some [.slice none 0 0] := by kernel_rfl
end FactsDTyB
open FactsDTyB

end Go.Proofs.YtlfillhffpiffaaDoor

namespace Go.Proofs.YtlfillhffpiffaaDoor
set_option linter.unusedSimpArgs false
set_option linter.unusedVariables false
set_option maxRecDepth 8000
set_option maxHeartbeats 1000000
open Go Go.Fx Go.Proofs
namespace FactsDTyD
theorem ag55 : ag Tryd.prog 55 = some 1 := by kernel_rfl
theorem arr22 : arr Tryd.prog 22 = some (4, 1) := by kernel_rfl
theorem es53 : esz Tryd.prog 53 = some 9 := by kernel_rfl
theorem fo24_0 : foff Tryd.prog 24 0 = some 0 := by kernel_rfl
theorem fo24_1 : foff Tryd.prog 24 1 = some 4 := by kernel_rfl
theorem fo55_0 : foff Tryd.prog 55 0 = some 0 := by kernel_rfl
theorem fo65_0 : foff Tryd.prog 65 0 = some 0 := by kernel_rfl
theorem fo65_1 : foff Tryd.prog 65 1 = some 1 := by kernel_rfl
theorem fo65_2 : foff Tryd.prog 65 2 = some 2 := by kernel_rfl
theorem fo65_3 : foff Tryd.prog 65 3 = some 3 := by kernel_rfl
theorem fo65_4 : foff Tryd.prog 65 4 = some 4 := by kernel_rfl
theorem pl24 : places Tryd.prog 24 = some [(0, 4), (4, 1)] := by kernel_rfl
theorem pl55 : places Tryd.prog 55 = some [(0, 1)] := by kernel_rfl
theorem pl65 : places Tryd.prog 65 = some [(0, 1), (1, 1), (2, 1), (3, 1), (4, 5)] := by kernel_rfl
theorem sc3 : sc Tryd.prog 3 = true := by kernel_rfl
theorem sc53 : sc Tryd.prog 53 = true := by kernel_rfl
theorem slA53 : slA Tryd.prog 53 = some (65, 9) := by kernel_rfl
theorem zc24 : zc Tryd.prog 24 = some [.int .i64 0, .int .i64 0, .int .i64 0, .int .i64 0, .int .i64 0] := by kernel_rfl
theorem zc55 : zc Tryd.prog 55 = some [.slice none 0 0] := by kernel_rfl
theorem zc65 : zc Tryd.prog 65 = some [.int .i64 0, .int .i64 0, .int .i64 0, .int .i64 0, .int .i64 0, .int .i64 0, .int .i64 0, .int .i64 0, .int .i64 0] := by kernel_rfl
end FactsDTyD
open FactsDTyD

abbrev tf0 : List (List Int) := [vNode 3, bNode true, fNode 0 1 [0, 0, 0, 0, -1]]
theorem typM_bad {L : List (List Int)} {x : List Int} (hx : x ∈ L) (h : nodM x = false) : typM L = false := by
  unfold typM
  have : L.all nodM = false := by rw [List.all_eq_false]; exact ⟨x, hx, by rw [h]; decide⟩
  rw [this]; simp
theorem nod_var {v a : Int} (h : v < 0 ∨ 4096 ≤ v ∨ a ≠ 0) : nodM [2, v, a, 0, 0, 0, 0, 0, 0] = false := by
  unfold nodM
  rw [if_neg (show ¬ ([2, v, a, 0, 0, 0, 0, 0, 0] : List Int).getD 0 0 = 3 from (by decide : ¬ (2 : Int) = 3)), if_pos (show ([2, v, a, 0, 0, 0, 0, 0, 0] : List Int).getD 0 0 = 2 from rfl)]
  show (decide (0 ≤ v ∧ v < 4096) && decide (([2, v, a, 0, 0, 0, 0, 0, 0] : List Int) = [2, v, 0, 0, 0, 0, 0, 0, 0])) = false
  by_cases ha : a = 0
  · rw [decide_eq_false (by omega)]; rfl
  · rw [decide_eq_false (p := ([2, v, a, 0, 0, 0, 0, 0, 0] : List Int) = _) (by simp [ha])]; simp
theorem nod_bas {v t : Int} (h : v ≠ 0 ∨ t ≠ 0) : nodM [1, v, 0, 0, 0, 0, 0, 0, t] = false := by
  unfold nodM
  show (if (1 : Int) = 3 then _ else if (1 : Int) = 2 then _ else if (1 : Int) = 0 ∨ (1 : Int) = 1 then decide (([1, v, 0, 0, 0, 0, 0, 0, t] : List Int) = [1, 0, 0, 0, 0, 0, 0, 0, 0]) else false) = false
  rw [if_neg (by decide), if_neg (by decide), if_pos (by decide), decide_eq_false (by simp; omega)]
theorem nod_kind {k : Int} (h : 3 < k) : nodM [k, 0, 0, 0, 0, 0, 0, 0, 0] = false := by
  unfold nodM
  show (if k = 3 then _ else if k = 2 then _ else if k = 0 ∨ k = 1 then _ else false) = false
  rw [if_neg (by omega), if_neg (by omega), if_neg (by omega)]
theorem nod_frow {v a b : Int} {r : List Int} (h : rowM r = false ∨ v ≠ 0) : nodM ([3, v, a, b] ++ r) = false := by
  unfold nodM
  show (if (3 : Int) = 3 then (rowM r && decide (v = 0)) else _) = false
  rw [if_pos rfl]
  rcases h with h | h
  · rw [h]; rfl
  · rw [decide_eq_false h, Bool.and_false]
theorem tf_a {d : Int} (h : 1 ≤ d) : typM [vNode 3, bNode true, fNode (-d) 1 [0, 0, 0, 0, -1]] = false := by
  have hz : bgn [vNode 3, bNode true, fNode (-d) 1 [0, 0, 0, 0, -1]] 3 2 = -1 := by
    have e1 : el [vNode 3, bNode true, fNode (-d) 1 [0, 0, 0, 0, -1]] 2 = fNode (-d) 1 [0, 0, 0, 0, -1] := rfl
    have e2 : el [vNode 3, bNode true, fNode (-d) 1 [0, 0, 0, 0, -1]] 1 = bNode true := rfl
    have e3 : bgn [vNode 3, bNode true, fNode (-d) 1 [0, 0, 0, 0, -1]] 2 1 = 1 := by rw [bgn_succ, e2, if_pos (by decide)]
    rw [bgn_succ, e1, if_neg (by show ¬ ¬ (3 : Int) = 3; decide), if_neg (by show ¬ ((2 : Int) = 0 ∨ ¬ (1 : Int) = 2 - 1); decide)]
    show (if bgn _ 2 1 < 1 ∨ (-d) ≠ bgn _ 2 1 - 1 then (-1 : Int) else _) = -1
    rw [e3, if_pos (by right; omega)]
  unfold typM
  rw [decide_eq_false (p := bgn _ _ _ = 0) (by show ¬ bgn [vNode 3, bNode true, fNode (-d) 1 [0, 0, 0, 0, -1]] 3 (3 - 1) = 0; rw [show (3 : Int) - 1 = 2 from rfl, hz]; decide), Bool.and_false]
theorem tf_b : typM [vNode 3, bNode true, fNode 0 0 [0, 0, 0, 0, -1]] = false := by decide
theorem tf_cut : typM [vNode 3, bNode true] = false := by decide
theorem tf_tail {t : Int} (h : t < -1 ∨ 4096 ≤ t) : rowM [0, 0, 0, 0, t] = false := by
  unfold rowM
  rw [decide_eq_false (show ¬ (-1 ≤ ([0, 0, 0, 0, t] : List Int).getD 4 0 ∧ ([0, 0, 0, 0, t] : List Int).getD 4 0 < 4096) by (show ¬ (-1 ≤ t ∧ t < 4096)); omega), Bool.and_false]
theorem tf_set {k : Int} (h0 : 0 ≤ k) (h3 : k ≤ 3) {v : Int} (h : v < 0 ∨ 32 < v) : rowM (([0, 0, 0, 0, -1] : List Int).set k.toNat v) = false := by
  have hv : okc v = false := by unfold okc; rw [decide_eq_false (by omega)]
  unfold rowM
  have : ((([0, 0, 0, 0, -1] : List Int).set k.toNat v).take 4).all okc = false := by
    obtain ⟨n, rfl⟩ := Int.eq_ofNat_of_zero_le h0
    match n, (show n ≤ 3 by omega) with
    | 0, _ => simp [hv]
    | 1, _ => simp [hv]
    | 2, _ => simp [hv]
    | 3, _ => simp [hv]
  rw [this, Bool.false_and]

theorem tf_cells {k : Int} (h0 : 0 ≤ k) (h3 : k ≤ 3) {v : Int} :
    ([Is (vNode 3), Is (bNode true), Is (fNode 0 1 [0, 0, 0, 0, -1])].flatten.set (18 + 4 + k.toNat) (I v)) = [vNode 3, bNode true, [3, 0, 0, 1] ++ ([0, 0, 0, 0, -1] : List Int).set k.toNat v].flatMap Is := by
  obtain ⟨n, rfl⟩ := Int.eq_ofNat_of_zero_le h0
  match n, (show n ≤ 3 by omega) with
  | 0, _ => rfl
  | 1, _ => rfl
  | 2, _ => rfl
  | 3, _ => rfl
theorem take_sl9 {L : List (List Int)} {H : Heap} {A : Option Addr} {cap i : Nat} (hS : SlT H Is 9 (.slice A L.length cap) L) (hi : i ≤ L.length) : SlT H Is 9 (.slice A (L.take i).length cap) (L.take i) := by
  obtain ⟨A', cap', e, h1, h2, h3, h4⟩ := hS
  cases e
  refine ⟨A, cap, rfl, by rw [List.length_take]; omega, h2, h3, ?_⟩
  rcases h4 with h4 | ⟨b, o, c, rfl, hb, h5⟩
  · exact .inl (by rw [List.length_take]; omega)
  · refine .inr ⟨b, o, c, rfl, hb, fun j hj => ?_⟩
    rw [List.length_take] at hj
    rw [List.getElem_take]
    exact h5 j (by omega)

theorem typForms_law (n1 n2 : Int) {H : Heap} (hT : Tens H) :
    Ret Tryd.prog 15 [I n1, I n2] H (fun v H' => v = .bool true ∧ Ext H H') := by
  obtain ⟨d, hd⟩ : ∃ d, d = 1 + bits .and .i64 n2 1023 := ⟨_, rfl⟩
  have hd3 : 1 ≤ d ∧ d ≤ 1024 := by have : 0 ≤ bits .and .i64 n2 1023 ∧ bits .and .i64 n2 1023 ≤ 1023 := and_le n2 1023 (by decide); rw [hd]; omega
  refine Ret.of_at (N := 182) Tryd.call15 Tryd.func15 rfl rfl rfl ?_
  have hE := Ext.refl H
  refine At.region rfl rfl ?_
  refine Reg.pur rfl rfl rfl rfl (Pur.asg rfl) ?_
  refine Reg.nil ?_
  refine At.region rfl rfl ?_
  refine Reg.op rfl rfl rfl rfl (Does.call rfl (awake7_ok (hT.ext hE))) ?_
  rintro _ H1_0 ⟨rfl, hE1_0⟩
  have z1_0 := hE1_0.lt
  replace hE := hE.ext hE1_0
  refine Reg.pur rfl rfl rfl rfl (Pur.not rfl) ?_
  refine Reg.nil ?_
  refine At.condF rfl rfl rfl ?_
  have hbb : 0 ≤ bits .and .i64 n2 1023 ∧ bits .and .i64 n2 1023 ≤ 1023 := and_le n2 1023 (by decide)
  refine At.region rfl rfl ?_
  refine Reg.pur rfl rfl rfl rfl (Pur.mv rfl) ?_
  refine Reg.pur rfl rfl rfl rfl (Pur.and rfl rfl) ?_
  first | refine Reg.pur rfl rfl rfl rfl (Pur.add64 rfl rfl (by omega)) ?_ | refine Reg.pur rfl rfl rfl rfl (Pur.add64 rfl rfl (by assumption)) ?_ | refine Reg.pur rfl rfl rfl rfl (Pur.add rfl rfl) ?_
  refine Reg.pur rfl rfl rfl rfl (Pur.asg rfl) ?_
  refine Reg.nil ?_
  rw [← hd]
  clear hd hbb
  refine At.region rfl rfl ?_
  refine Reg.pur rfl rfl rfl rfl (Pur.bld (cs := [_, _, _, _, _, _, _, _, _]) pl65 zc65 rfl rfl ⟨rfl, rfl, rfl, rfl, rfl, rfl, rfl, rfl, rfl, rfl⟩) ?_
  refine Reg.pur rfl rfl rfl rfl (Pur.bld (cs := [_, _, _, _, _, _, _, _, _]) pl65 zc65 rfl rfl ⟨rfl, rfl, rfl, rfl, rfl, rfl, rfl, rfl, rfl, rfl⟩) ?_
  refine Reg.pur rfl rfl rfl rfl (Pur.bld (cs := [_, _, _, _, _]) pl24 zc24 rfl rfl ⟨rfl, rfl, rfl, rfl, rfl, rfl⟩) ?_
  refine Reg.pur rfl rfl rfl rfl (Pur.bld (cs := [_, _, _, _, _, _, _, _, _]) pl65 zc65 rfl rfl ⟨rfl, rfl, rfl, rfl, rfl, rfl, rfl, rfl, rfl, rfl⟩) ?_
  refine Reg.op rfl rfl rfl rfl (Does.bslA ([Is (vNode 3), Is (bNode true), Is (fNode 0 1 [0, 0, 0, 0, -1])]) slA53 rfl rfl rfl rfl rfl rfl) ?_
  rintro _ H4_4 ⟨rfl, hp4_4⟩
  have hn4_4 := New.of_eq hp4_4
  have z4_4 := hn4_4.size
  replace hE := hE.ext hn4_4.ext
  have o4_4 := hn4_4.own
  refine Reg.pur rfl rfl rfl rfl (Pur.bld (cs := [_]) pl55 zc55 rfl rfl ⟨rfl, rfl⟩) ?_
  refine Reg.op rfl rfl rfl rfl (Does.alloc zc55) ?_
  rintro _ H4_6 ⟨rfl, hn4_6⟩
  have z4_6 := hn4_6.size
  replace hE := hE.ext hn4_6.ext
  replace o4_4 := o4_4.ext hn4_6.ext
  have o4_6 := hn4_6.own
  refine Reg.op0 rfl rfl rfl (Does.stn ag55 rfl rfl (by first | rfl | exact ones_Is _) (by first | rfl | (simp [*]; done)) o4_6 (by first | decide | (simp; done) | (simp; omega) | omega)) ?_
  rintro _ H4_7 hu4_7
  have z4_7 := hu4_7.size
  replace hE := hE.upw hu4_7 (by omega)
  replace o4_4 := o4_4.upw hu4_7 (by omega)
  replace o4_6 := hu4_7.own
  first | rw [over (by first | rfl | (simp; done))] at o4_6 | skip
  refine Reg.nil ?_
  refine At.region rfl rfl ?_
  refine Reg.lod rfl rfl rfl rfl (Lod.ldn ag55 rfl o4_6.blk (whole rfl) rfl) ?_
  refine Reg.op rfl rfl rfl rfl (Does.call rfl (typMay_ok tf0 (nine_lit rfl) (sl_own (L := tf0) (wide9 (nine_lit rfl)) (by decide) o4_4 (by decide)) (by decide))) ?_
  rintro _ H5_1 ⟨rfl, hE5_1⟩
  have z5_1 := hE5_1.lt
  replace hE := hE.ext hE5_1
  replace o4_4 := o4_4.ext hE5_1
  replace o4_6 := o4_6.ext hE5_1
  refine Reg.pur rfl rfl rfl rfl (Pur.not rfl) ?_
  refine Reg.nil ?_
  refine At.condF rfl rfl (by decide) ?_
  refine At.region rfl rfl ?_
  refine Reg.pur rfl rfl rfl rfl (Pur.mv rfl) ?_
  refine Reg.pur rfl rfl rfl rfl (Pur.cnv Tryd.underlying3 Tryd.underlying47 rfl) ?_
  first | refine Reg.pur rfl rfl rfl rfl (Pur.rem rfl rfl (by omega)) ?_ | refine Reg.pur rfl rfl rfl rfl (Pur.rem rfl rfl (by decide)) ?_
  refine Reg.nil ?_
  refine At.region rfl rfl ?_
  refine Reg.pur rfl rfl rfl rfl (Pur.eql rfl rfl) ?_
  refine Reg.pur rfl rfl rfl rfl (Pur.asg rfl) ?_
  refine Reg.nil ?_
  refine At.joinc (σ := List (List Int)) (fun L => [(5, I d), (6, ptr H4_4.size 0)]) (fun L H' => Nine L ∧ L.length ≤ 3 ∧ typM L = false ∧ SlT H' Is 9 (.slice (some ⟨H1_0.size, 0, none⟩) L.length 3) L ∧ Own H' H4_4.size [.slice (some ⟨H1_0.size, 0, none⟩) L.length 3] ∧ Ext H H') rfl (fun hJ => ?_) (fun L H9 hs => ?_)
  · refine At.cond rfl rfl (fun q36 => ?_) (fun q36 => ?_)
    · first | (simp only [decide_eq_true_eq, decide_eq_false_iff_not, Bool.not_eq_true', Bool.not_eq_false', ne_eq, Decidable.not_not, Bool.not_eq_true, Bool.not_eq_false] at q36) | (dsimp only at q36) | skip
      refine At.region rfl rfl ?_
      refine Reg.pur rfl rfl rfl rfl (Pur.fld _ fo55_0 rfl) ?_
      refine Reg.lod rfl rfl rfl rfl (Lod.ld sc53 rfl o4_6.blk (by first | rfl | (simp; done))) ?_
      refine Reg.pur rfl rfl rfl rfl (Pur.mv rfl) ?_
      refine Reg.pur rfl rfl rfl rfl (Pur.neg64 rfl (by omega)) ?_
      refine Reg.pur rfl rfl rfl rfl (Pur.idx _ es53 rfl rfl (by omega) (by omega)) ?_
      refine Reg.pur rfl rfl rfl rfl (Pur.fld _ fo65_1 rfl) ?_
      refine Reg.op0 rfl rfl rfl (Does.st sc3 rfl rfl rfl o4_4 (by first | decide | (simp; done) | (simp; omega) | omega)) ?_
      rintro _ H10_6 hu10_6
      have z10_6 := hu10_6.size
      replace hE := hE.upw hu10_6 (by omega)
      replace o4_6 := o4_6.upw hu10_6 (by omega)
      replace o4_4 := hu10_6.own
      refine Reg.nil ?_
      exact At.meets rfl (hJ [vNode (-d), bNode true, fNode 0 1 [0, 0, 0, 0, -1]] _ ⟨nine_lit rfl, (by simp), typM_bad (x := vNode (-d)) (by simp) (nod_var (by omega)), sl_own (wide9 (nine_lit rfl)) (by decide) (o4_4.of (by simp [Is])) (by simp), o4_6, hE⟩) ⟨rfl, rfl, trivial⟩
    first | (simp only [decide_eq_true_eq, decide_eq_false_iff_not, Bool.not_eq_true', Bool.not_eq_false', ne_eq, Decidable.not_not, Bool.not_eq_true, Bool.not_eq_false] at q36) | (dsimp only at q36) | skip
    refine At.region rfl rfl ?_
    refine Reg.pur rfl rfl rfl rfl (Pur.eql rfl rfl) ?_
    refine Reg.pur rfl rfl rfl rfl (Pur.asg rfl) ?_
    refine Reg.nil ?_
    refine At.cond rfl rfl (fun q44 => ?_) (fun q44 => ?_)
    · first | (simp only [decide_eq_true_eq, decide_eq_false_iff_not, Bool.not_eq_true', Bool.not_eq_false', ne_eq, Decidable.not_not, Bool.not_eq_true, Bool.not_eq_false] at q44) | (dsimp only at q44) | skip
      refine At.region rfl rfl ?_
      refine Reg.pur rfl rfl rfl rfl (Pur.fld _ fo55_0 rfl) ?_
      refine Reg.lod rfl rfl rfl rfl (Lod.ld sc53 rfl o4_6.blk (by first | rfl | (simp; done))) ?_
      refine Reg.pur rfl rfl rfl rfl (Pur.mv rfl) ?_
      refine Reg.pur rfl rfl rfl rfl (Pur.add64 rfl rfl (by omega)) ?_
      refine Reg.pur rfl rfl rfl rfl (Pur.idx _ es53 rfl rfl (by omega) (by omega)) ?_
      refine Reg.pur rfl rfl rfl rfl (Pur.fld _ fo65_1 rfl) ?_
      refine Reg.op0 rfl rfl rfl (Does.st sc3 rfl rfl rfl o4_4 (by first | decide | (simp; done) | (simp; omega) | omega)) ?_
      rintro _ H12_6 hu12_6
      have z12_6 := hu12_6.size
      replace hE := hE.upw hu12_6 (by omega)
      replace o4_6 := o4_6.upw hu12_6 (by omega)
      replace o4_4 := hu12_6.own
      refine Reg.nil ?_
      exact At.meets rfl (hJ [vNode (4095 + d), bNode true, fNode 0 1 [0, 0, 0, 0, -1]] _ ⟨nine_lit rfl, (by simp), typM_bad (x := vNode (4095 + d)) (by simp) (nod_var (by omega)), sl_own (wide9 (nine_lit rfl)) (by decide) (o4_4.of (by simp [Is])) (by simp), o4_6, hE⟩) ⟨rfl, rfl, trivial⟩
    first | (simp only [decide_eq_true_eq, decide_eq_false_iff_not, Bool.not_eq_true', Bool.not_eq_false', ne_eq, Decidable.not_not, Bool.not_eq_true, Bool.not_eq_false] at q44) | (dsimp only at q44) | skip
    refine At.region rfl rfl ?_
    refine Reg.pur rfl rfl rfl rfl (Pur.eql rfl rfl) ?_
    refine Reg.pur rfl rfl rfl rfl (Pur.asg rfl) ?_
    refine Reg.nil ?_
    refine At.cond rfl rfl (fun q52 => ?_) (fun q52 => ?_)
    · first | (simp only [decide_eq_true_eq, decide_eq_false_iff_not, Bool.not_eq_true', Bool.not_eq_false', ne_eq, Decidable.not_not, Bool.not_eq_true, Bool.not_eq_false] at q52) | (dsimp only at q52) | skip
      refine At.region rfl rfl ?_
      refine Reg.pur rfl rfl rfl rfl (Pur.fld _ fo55_0 rfl) ?_
      refine Reg.lod rfl rfl rfl rfl (Lod.ld sc53 rfl o4_6.blk (by first | rfl | (simp; done))) ?_
      refine Reg.pur rfl rfl rfl rfl (Pur.mv rfl) ?_
      refine Reg.pur rfl rfl rfl rfl (Pur.idx _ es53 rfl rfl (by omega) (by omega)) ?_
      refine Reg.pur rfl rfl rfl rfl (Pur.fld _ fo65_2 rfl) ?_
      refine Reg.op0 rfl rfl rfl (Does.st sc3 rfl rfl rfl o4_4 (by first | decide | (simp; done) | (simp; omega) | omega)) ?_
      rintro _ H14_5 hu14_5
      have z14_5 := hu14_5.size
      replace hE := hE.upw hu14_5 (by omega)
      replace o4_6 := o4_6.upw hu14_5 (by omega)
      replace o4_4 := hu14_5.own
      refine Reg.nil ?_
      exact At.meets rfl (hJ [[2, 3, d, 0, 0, 0, 0, 0, 0], bNode true, fNode 0 1 [0, 0, 0, 0, -1]] _ ⟨nine_lit rfl, (by simp), typM_bad (x := [2, 3, d, 0, 0, 0, 0, 0, 0]) (by simp) (nod_var (by omega)), sl_own (wide9 (nine_lit rfl)) (by decide) (o4_4.of (by simp [Is])) (by simp), o4_6, hE⟩) ⟨rfl, rfl, trivial⟩
    first | (simp only [decide_eq_true_eq, decide_eq_false_iff_not, Bool.not_eq_true', Bool.not_eq_false', ne_eq, Decidable.not_not, Bool.not_eq_true, Bool.not_eq_false] at q52) | (dsimp only at q52) | skip
    refine At.region rfl rfl ?_
    refine Reg.pur rfl rfl rfl rfl (Pur.eql rfl rfl) ?_
    refine Reg.pur rfl rfl rfl rfl (Pur.asg rfl) ?_
    refine Reg.nil ?_
    refine At.cond rfl rfl (fun q59 => ?_) (fun q59 => ?_)
    · first | (simp only [decide_eq_true_eq, decide_eq_false_iff_not, Bool.not_eq_true', Bool.not_eq_false', ne_eq, Decidable.not_not, Bool.not_eq_true, Bool.not_eq_false] at q59) | (dsimp only at q59) | skip
      refine At.region rfl rfl ?_
      refine Reg.pur rfl rfl rfl rfl (Pur.fld _ fo55_0 rfl) ?_
      refine Reg.lod rfl rfl rfl rfl (Lod.ld sc53 rfl o4_6.blk (by first | rfl | (simp; done))) ?_
      refine Reg.pur rfl rfl rfl rfl (Pur.mv rfl) ?_
      refine Reg.pur rfl rfl rfl rfl (Pur.idx _ es53 rfl rfl (by omega) (by omega)) ?_
      refine Reg.pur rfl rfl rfl rfl (Pur.fld _ fo65_1 rfl) ?_
      refine Reg.op0 rfl rfl rfl (Does.st sc3 rfl rfl rfl o4_4 (by first | decide | (simp; done) | (simp; omega) | omega)) ?_
      rintro _ H16_5 hu16_5
      have z16_5 := hu16_5.size
      replace hE := hE.upw hu16_5 (by omega)
      replace o4_6 := o4_6.upw hu16_5 (by omega)
      replace o4_4 := hu16_5.own
      refine Reg.nil ?_
      exact At.meets rfl (hJ [vNode 3, [1, d, 0, 0, 0, 0, 0, 0, 0], fNode 0 1 [0, 0, 0, 0, -1]] _ ⟨nine_lit rfl, (by simp), typM_bad (x := [1, d, 0, 0, 0, 0, 0, 0, 0]) (by simp) (nod_bas (by omega)), sl_own (wide9 (nine_lit rfl)) (by decide) (o4_4.of (by simp [Is])) (by simp), o4_6, hE⟩) ⟨rfl, rfl, trivial⟩
    first | (simp only [decide_eq_true_eq, decide_eq_false_iff_not, Bool.not_eq_true', Bool.not_eq_false', ne_eq, Decidable.not_not, Bool.not_eq_true, Bool.not_eq_false] at q59) | (dsimp only at q59) | skip
    refine At.region rfl rfl ?_
    refine Reg.pur rfl rfl rfl rfl (Pur.eql rfl rfl) ?_
    refine Reg.pur rfl rfl rfl rfl (Pur.asg rfl) ?_
    refine Reg.nil ?_
    refine At.cond rfl rfl (fun q66 => ?_) (fun q66 => ?_)
    · first | (simp only [decide_eq_true_eq, decide_eq_false_iff_not, Bool.not_eq_true', Bool.not_eq_false', ne_eq, Decidable.not_not, Bool.not_eq_true, Bool.not_eq_false] at q66) | (dsimp only at q66) | skip
      refine At.region rfl rfl ?_
      refine Reg.pur rfl rfl rfl rfl (Pur.fld _ fo55_0 rfl) ?_
      refine Reg.lod rfl rfl rfl rfl (Lod.ld sc53 rfl o4_6.blk (by first | rfl | (simp; done))) ?_
      refine Reg.pur rfl rfl rfl rfl (Pur.mv rfl) ?_
      refine Reg.pur rfl rfl rfl rfl (Pur.add64 rfl rfl (by omega)) ?_
      refine Reg.pur rfl rfl rfl rfl (Pur.idx _ es53 rfl rfl (by omega) (by omega)) ?_
      refine Reg.pur rfl rfl rfl rfl (Pur.fld _ fo65_0 rfl) ?_
      refine Reg.op0 rfl rfl rfl (Does.st sc3 rfl rfl rfl o4_4 (by first | decide | (simp; done) | (simp; omega) | omega)) ?_
      rintro _ H18_6 hu18_6
      have z18_6 := hu18_6.size
      replace hE := hE.upw hu18_6 (by omega)
      replace o4_6 := o4_6.upw hu18_6 (by omega)
      replace o4_4 := hu18_6.own
      refine Reg.nil ?_
      exact At.meets rfl (hJ [vNode 3, [3 + d, 0, 0, 0, 0, 0, 0, 0, 0], fNode 0 1 [0, 0, 0, 0, -1]] _ ⟨nine_lit rfl, (by simp), typM_bad (x := [3 + d, 0, 0, 0, 0, 0, 0, 0, 0]) (by simp) (nod_kind (by omega)), sl_own (wide9 (nine_lit rfl)) (by decide) (o4_4.of (by simp [Is])) (by simp), o4_6, hE⟩) ⟨rfl, rfl, trivial⟩
    first | (simp only [decide_eq_true_eq, decide_eq_false_iff_not, Bool.not_eq_true', Bool.not_eq_false', ne_eq, Decidable.not_not, Bool.not_eq_true, Bool.not_eq_false] at q66) | (dsimp only at q66) | skip
    refine At.region rfl rfl ?_
    refine Reg.pur rfl rfl rfl rfl (Pur.eql rfl rfl) ?_
    refine Reg.pur rfl rfl rfl rfl (Pur.asg rfl) ?_
    refine Reg.nil ?_
    refine At.cond rfl rfl (fun q74 => ?_) (fun q74 => ?_)
    · first | (simp only [decide_eq_true_eq, decide_eq_false_iff_not, Bool.not_eq_true', Bool.not_eq_false', ne_eq, Decidable.not_not, Bool.not_eq_true, Bool.not_eq_false] at q74) | (dsimp only at q74) | skip
      refine At.region rfl rfl ?_
      refine Reg.pur rfl rfl rfl rfl (Pur.fld _ fo55_0 rfl) ?_
      refine Reg.lod rfl rfl rfl rfl (Lod.ld sc53 rfl o4_6.blk (by first | rfl | (simp; done))) ?_
      refine Reg.pur rfl rfl rfl rfl (Pur.mv rfl) ?_
      refine Reg.pur rfl rfl rfl rfl (Pur.idx _ es53 rfl rfl (by omega) (by omega)) ?_
      refine Reg.pur rfl rfl rfl rfl (Pur.fld _ fo65_4 rfl) ?_
      refine Reg.pur rfl rfl rfl rfl (Pur.fld _ fo24_1 rfl) ?_
      refine Reg.op0 rfl rfl rfl (Does.st sc3 rfl rfl rfl o4_4 (by first | decide | (simp; done) | (simp; omega) | omega)) ?_
      rintro _ H20_6 hu20_6
      have z20_6 := hu20_6.size
      replace hE := hE.upw hu20_6 (by omega)
      replace o4_6 := o4_6.upw hu20_6 (by omega)
      replace o4_4 := hu20_6.own
      refine Reg.nil ?_
      exact At.meets rfl (hJ [vNode 3, [1, 0, 0, 0, 0, 0, 0, 0, d], fNode 0 1 [0, 0, 0, 0, -1]] _ ⟨nine_lit rfl, (by simp), typM_bad (x := [1, 0, 0, 0, 0, 0, 0, 0, d]) (by simp) (nod_bas (by omega)), sl_own (wide9 (nine_lit rfl)) (by decide) (o4_4.of (by simp [Is])) (by simp), o4_6, hE⟩) ⟨rfl, rfl, trivial⟩
    first | (simp only [decide_eq_true_eq, decide_eq_false_iff_not, Bool.not_eq_true', Bool.not_eq_false', ne_eq, Decidable.not_not, Bool.not_eq_true, Bool.not_eq_false] at q74) | (dsimp only at q74) | skip
    refine At.region rfl rfl ?_
    refine Reg.pur rfl rfl rfl rfl (Pur.eql rfl rfl) ?_
    refine Reg.pur rfl rfl rfl rfl (Pur.asg rfl) ?_
    refine Reg.nil ?_
    refine At.cond rfl rfl (fun q82 => ?_) (fun q82 => ?_)
    · first | (simp only [decide_eq_true_eq, decide_eq_false_iff_not, Bool.not_eq_true', Bool.not_eq_false', ne_eq, Decidable.not_not, Bool.not_eq_true, Bool.not_eq_false] at q82) | (dsimp only at q82) | skip
      refine At.region rfl rfl ?_
      refine Reg.pur rfl rfl rfl rfl (Pur.fld _ fo55_0 rfl) ?_
      refine Reg.lod rfl rfl rfl rfl (Lod.ld sc53 rfl o4_6.blk (by first | rfl | (simp; done))) ?_
      refine Reg.pur rfl rfl rfl rfl (Pur.mv rfl) ?_
      refine Reg.pur rfl rfl rfl rfl (Pur.neg64 rfl (by omega)) ?_
      refine Reg.pur rfl rfl rfl rfl (Pur.idx _ es53 rfl rfl (by omega) (by omega)) ?_
      refine Reg.pur rfl rfl rfl rfl (Pur.fld _ fo65_2 rfl) ?_
      refine Reg.op0 rfl rfl rfl (Does.st sc3 rfl rfl rfl o4_4 (by first | decide | (simp; done) | (simp; omega) | omega)) ?_
      rintro _ H22_6 hu22_6
      have z22_6 := hu22_6.size
      replace hE := hE.upw hu22_6 (by omega)
      replace o4_6 := o4_6.upw hu22_6 (by omega)
      replace o4_4 := hu22_6.own
      refine Reg.nil ?_
      exact At.meets rfl (hJ [vNode 3, bNode true, fNode (-d) 1 [0, 0, 0, 0, -1]] _ ⟨nine_lit rfl, (by simp), tf_a (by omega), sl_own (wide9 (nine_lit rfl)) (by decide) (o4_4.of (by simp [Is])) (by simp), o4_6, hE⟩) ⟨rfl, rfl, trivial⟩
    first | (simp only [decide_eq_true_eq, decide_eq_false_iff_not, Bool.not_eq_true', Bool.not_eq_false', ne_eq, Decidable.not_not, Bool.not_eq_true, Bool.not_eq_false] at q82) | (dsimp only at q82) | skip
    refine At.region rfl rfl ?_
    refine Reg.pur rfl rfl rfl rfl (Pur.eql rfl rfl) ?_
    refine Reg.pur rfl rfl rfl rfl (Pur.asg rfl) ?_
    refine Reg.nil ?_
    refine At.cond rfl rfl (fun q90 => ?_) (fun q90 => ?_)
    · first | (simp only [decide_eq_true_eq, decide_eq_false_iff_not, Bool.not_eq_true', Bool.not_eq_false', ne_eq, Decidable.not_not, Bool.not_eq_true, Bool.not_eq_false] at q90) | (dsimp only at q90) | skip
      refine At.region rfl rfl ?_
      refine Reg.pur rfl rfl rfl rfl (Pur.fld _ fo55_0 rfl) ?_
      refine Reg.lod rfl rfl rfl rfl (Lod.ld sc53 rfl o4_6.blk (by first | rfl | (simp; done))) ?_
      refine Reg.pur rfl rfl rfl rfl (Pur.idx _ es53 rfl rfl (by omega) (by omega)) ?_
      refine Reg.pur rfl rfl rfl rfl (Pur.fld _ fo65_3 rfl) ?_
      refine Reg.op0 rfl rfl rfl (Does.st sc3 rfl rfl rfl o4_4 (by first | decide | (simp; done) | (simp; omega) | omega)) ?_
      rintro _ H24_4 hu24_4
      have z24_4 := hu24_4.size
      replace hE := hE.upw hu24_4 (by omega)
      replace o4_6 := o4_6.upw hu24_4 (by omega)
      replace o4_4 := hu24_4.own
      refine Reg.nil ?_
      exact At.meets rfl (hJ [vNode 3, bNode true, fNode 0 0 [0, 0, 0, 0, -1]] _ ⟨nine_lit rfl, (by simp), tf_b, sl_own (wide9 (nine_lit rfl)) (by decide) (o4_4.of (by simp [Is])) (by simp), o4_6, hE⟩) ⟨rfl, rfl, trivial⟩
    first | (simp only [decide_eq_true_eq, decide_eq_false_iff_not, Bool.not_eq_true', Bool.not_eq_false', ne_eq, Decidable.not_not, Bool.not_eq_true, Bool.not_eq_false] at q90) | (dsimp only at q90) | skip
    refine At.region rfl rfl ?_
    refine Reg.pur rfl rfl rfl rfl (Pur.eql rfl rfl) ?_
    refine Reg.pur rfl rfl rfl rfl (Pur.asg rfl) ?_
    refine Reg.nil ?_
    refine At.cond rfl rfl (fun q96 => ?_) (fun q96 => ?_)
    · first | (simp only [decide_eq_true_eq, decide_eq_false_iff_not, Bool.not_eq_true', Bool.not_eq_false', ne_eq, Decidable.not_not, Bool.not_eq_true, Bool.not_eq_false] at q96) | (dsimp only at q96) | skip
      refine At.region rfl rfl ?_
      refine Reg.pur rfl rfl rfl rfl (Pur.fld _ fo55_0 rfl) ?_
      refine Reg.lod rfl rfl rfl rfl (Lod.ld sc53 rfl o4_6.blk (by first | rfl | (simp; done))) ?_
      refine Reg.pur rfl rfl rfl rfl (Pur.mv rfl) ?_
      refine Reg.pur rfl rfl rfl rfl (Pur.sub64 rfl rfl (by omega)) ?_
      refine Reg.pur rfl rfl rfl rfl (Pur.idx _ es53 rfl rfl (by omega) (by omega)) ?_
      refine Reg.pur rfl rfl rfl rfl (Pur.fld _ fo65_4 rfl) ?_
      refine Reg.pur rfl rfl rfl rfl (Pur.fld _ fo24_1 rfl) ?_
      refine Reg.op0 rfl rfl rfl (Does.st sc3 rfl rfl rfl o4_4 (by first | decide | (simp; done) | (simp; omega) | omega)) ?_
      rintro _ H26_7 hu26_7
      have z26_7 := hu26_7.size
      replace hE := hE.upw hu26_7 (by omega)
      replace o4_6 := o4_6.upw hu26_7 (by omega)
      replace o4_4 := hu26_7.own
      refine Reg.nil ?_
      exact At.meets rfl (hJ [vNode 3, bNode true, [3, 0, 0, 1, 0, 0, 0, 0, -1 - d]] _ ⟨nine_lit rfl, (by simp), typM_bad (x := [3, 0, 0, 1, 0, 0, 0, 0, -1 - d]) (by simp) (nod_frow (.inl (tf_tail (by omega)))), sl_own (wide9 (nine_lit rfl)) (by decide) (o4_4.of (by simp [Is])) (by simp), o4_6, hE⟩) ⟨rfl, rfl, trivial⟩
    first | (simp only [decide_eq_true_eq, decide_eq_false_iff_not, Bool.not_eq_true', Bool.not_eq_false', ne_eq, Decidable.not_not, Bool.not_eq_true, Bool.not_eq_false] at q96) | (dsimp only at q96) | skip
    refine At.region rfl rfl ?_
    refine Reg.pur rfl rfl rfl rfl (Pur.eql rfl rfl) ?_
    refine Reg.pur rfl rfl rfl rfl (Pur.asg rfl) ?_
    refine Reg.nil ?_
    refine At.cond rfl rfl (fun q105 => ?_) (fun q105 => ?_)
    · first | (simp only [decide_eq_true_eq, decide_eq_false_iff_not, Bool.not_eq_true', Bool.not_eq_false', ne_eq, Decidable.not_not, Bool.not_eq_true, Bool.not_eq_false] at q105) | (dsimp only at q105) | skip
      refine At.region rfl rfl ?_
      refine Reg.pur rfl rfl rfl rfl (Pur.fld _ fo55_0 rfl) ?_
      refine Reg.lod rfl rfl rfl rfl (Lod.ld sc53 rfl o4_6.blk (by first | rfl | (simp; done))) ?_
      refine Reg.pur rfl rfl rfl rfl (Pur.mv rfl) ?_
      refine Reg.pur rfl rfl rfl rfl (Pur.add64 rfl rfl (by omega)) ?_
      refine Reg.pur rfl rfl rfl rfl (Pur.idx _ es53 rfl rfl (by omega) (by omega)) ?_
      refine Reg.pur rfl rfl rfl rfl (Pur.fld _ fo65_4 rfl) ?_
      refine Reg.pur rfl rfl rfl rfl (Pur.fld _ fo24_1 rfl) ?_
      refine Reg.op0 rfl rfl rfl (Does.st sc3 rfl rfl rfl o4_4 (by first | decide | (simp; done) | (simp; omega) | omega)) ?_
      rintro _ H28_7 hu28_7
      have z28_7 := hu28_7.size
      replace hE := hE.upw hu28_7 (by omega)
      replace o4_6 := o4_6.upw hu28_7 (by omega)
      replace o4_4 := hu28_7.own
      refine Reg.nil ?_
      exact At.meets rfl (hJ [vNode 3, bNode true, [3, 0, 0, 1, 0, 0, 0, 0, 4095 + d]] _ ⟨nine_lit rfl, (by simp), typM_bad (x := [3, 0, 0, 1, 0, 0, 0, 0, 4095 + d]) (by simp) (nod_frow (.inl (tf_tail (by omega)))), sl_own (wide9 (nine_lit rfl)) (by decide) (o4_4.of (by simp [Is])) (by simp), o4_6, hE⟩) ⟨rfl, rfl, trivial⟩
    first | (simp only [decide_eq_true_eq, decide_eq_false_iff_not, Bool.not_eq_true', Bool.not_eq_false', ne_eq, Decidable.not_not, Bool.not_eq_true, Bool.not_eq_false] at q105) | (dsimp only at q105) | skip
    refine At.region rfl rfl ?_
    refine Reg.pur rfl rfl rfl rfl (Pur.eql rfl rfl) ?_
    refine Reg.pur rfl rfl rfl rfl (Pur.asg rfl) ?_
    refine Reg.nil ?_
    refine At.cond rfl rfl (fun q114 => ?_) (fun q114 => ?_)
    · first | (simp only [decide_eq_true_eq, decide_eq_false_iff_not, Bool.not_eq_true', Bool.not_eq_false', ne_eq, Decidable.not_not, Bool.not_eq_true, Bool.not_eq_false] at q114) | (dsimp only at q114) | skip
      have hb : 0 ≤ bits .and .i64 d 3 ∧ bits .and .i64 d 3 ≤ 3 := and_le d 3 (by decide)
      refine At.region rfl rfl ?_
      refine Reg.pur rfl rfl rfl rfl (Pur.fld _ fo55_0 rfl) ?_
      refine Reg.lod rfl rfl rfl rfl (Lod.ld sc53 rfl o4_6.blk (by first | rfl | (simp; done))) ?_
      refine Reg.pur rfl rfl rfl rfl (Pur.mv rfl) ?_
      refine Reg.pur rfl rfl rfl rfl (Pur.and rfl rfl) ?_
      refine Reg.pur rfl rfl rfl rfl (Pur.mv rfl) ?_
      refine Reg.pur rfl rfl rfl rfl (Pur.add64 rfl rfl (by omega)) ?_
      refine Reg.pur rfl rfl rfl rfl (Pur.idx _ es53 rfl rfl (by omega) (by omega)) ?_
      refine Reg.pur rfl rfl rfl rfl (Pur.fld _ fo65_4 rfl) ?_
      refine Reg.pur rfl rfl rfl rfl (Pur.fld _ fo24_0 rfl) ?_
      refine Reg.pur rfl rfl rfl rfl (Pur.idxP arr22 rfl rfl (by omega) (by omega)) ?_
      refine Reg.op0 rfl rfl rfl (Does.st sc3 rfl rfl rfl o4_4 (by first | decide | (simp; done) | (simp; omega) | omega)) ?_
      rintro _ H30_10 hu30_10
      have z30_10 := hu30_10.size
      replace hE := hE.upw hu30_10 (by omega)
      replace o4_6 := o4_6.upw hu30_10 (by omega)
      replace o4_4 := hu30_10.own
      refine Reg.nil ?_
      exact At.meets rfl (hJ [vNode 3, bNode true, ([3, 0, 0, 1] ++ ([0, 0, 0, 0, -1] : List Int).set (bits .and .i64 d 3).toNat (32 + d))] _ ⟨nine_lit (by simp), (by simp), typM_bad (x := [3, 0, 0, 1] ++ ([0, 0, 0, 0, -1] : List Int).set (bits .and .i64 d 3).toNat (32 + d)) (by simp) (nod_frow (.inl (tf_set hb.1 hb.2 (by omega)))), sl_own (wide9 (nine_lit (by simp))) (by decide) (o4_4.of (by rw [show 0 + Int.toNat 2 * 9 + 4 + 0 + (bits .and .i64 d 3).toNat * 1 = 18 + 4 + (bits .and .i64 d 3).toNat from by show 0 + 2 * 9 + 4 + 0 + (bits .and .i64 d 3).toNat * 1 = _; omega]; exact tf_cells hb.1 hb.2)) (by simp), o4_6, hE⟩) ⟨rfl, rfl, trivial⟩
    first | (simp only [decide_eq_true_eq, decide_eq_false_iff_not, Bool.not_eq_true', Bool.not_eq_false', ne_eq, Decidable.not_not, Bool.not_eq_true, Bool.not_eq_false] at q114) | (dsimp only at q114) | skip
    refine At.region rfl rfl ?_
    refine Reg.pur rfl rfl rfl rfl (Pur.eql rfl rfl) ?_
    refine Reg.pur rfl rfl rfl rfl (Pur.asg rfl) ?_
    refine Reg.nil ?_
    refine At.cond rfl rfl (fun q126 => ?_) (fun q126 => ?_)
    · first | (simp only [decide_eq_true_eq, decide_eq_false_iff_not, Bool.not_eq_true', Bool.not_eq_false', ne_eq, Decidable.not_not, Bool.not_eq_true, Bool.not_eq_false] at q126) | (dsimp only at q126) | skip
      have hb : 0 ≤ bits .and .i64 d 3 ∧ bits .and .i64 d 3 ≤ 3 := and_le d 3 (by decide)
      refine At.region rfl rfl ?_
      refine Reg.pur rfl rfl rfl rfl (Pur.fld _ fo55_0 rfl) ?_
      refine Reg.lod rfl rfl rfl rfl (Lod.ld sc53 rfl o4_6.blk (by first | rfl | (simp; done))) ?_
      refine Reg.pur rfl rfl rfl rfl (Pur.mv rfl) ?_
      refine Reg.pur rfl rfl rfl rfl (Pur.and rfl rfl) ?_
      refine Reg.pur rfl rfl rfl rfl (Pur.mv rfl) ?_
      refine Reg.pur rfl rfl rfl rfl (Pur.neg64 rfl (by omega)) ?_
      refine Reg.pur rfl rfl rfl rfl (Pur.idx _ es53 rfl rfl (by omega) (by omega)) ?_
      refine Reg.pur rfl rfl rfl rfl (Pur.fld _ fo65_4 rfl) ?_
      refine Reg.pur rfl rfl rfl rfl (Pur.fld _ fo24_0 rfl) ?_
      refine Reg.pur rfl rfl rfl rfl (Pur.idxP arr22 rfl rfl (by omega) (by omega)) ?_
      refine Reg.op0 rfl rfl rfl (Does.st sc3 rfl rfl rfl o4_4 (by first | decide | (simp; done) | (simp; omega) | omega)) ?_
      rintro _ H32_10 hu32_10
      have z32_10 := hu32_10.size
      replace hE := hE.upw hu32_10 (by omega)
      replace o4_6 := o4_6.upw hu32_10 (by omega)
      replace o4_4 := hu32_10.own
      refine Reg.nil ?_
      exact At.meets rfl (hJ [vNode 3, bNode true, ([3, 0, 0, 1] ++ ([0, 0, 0, 0, -1] : List Int).set (bits .and .i64 d 3).toNat (-d))] _ ⟨nine_lit (by simp), (by simp), typM_bad (x := [3, 0, 0, 1] ++ ([0, 0, 0, 0, -1] : List Int).set (bits .and .i64 d 3).toNat (-d)) (by simp) (nod_frow (.inl (tf_set hb.1 hb.2 (by omega)))), sl_own (wide9 (nine_lit (by simp))) (by decide) (o4_4.of (by rw [show 0 + Int.toNat 2 * 9 + 4 + 0 + (bits .and .i64 d 3).toNat * 1 = 18 + 4 + (bits .and .i64 d 3).toNat from by show 0 + 2 * 9 + 4 + 0 + (bits .and .i64 d 3).toNat * 1 = _; omega]; exact tf_cells hb.1 hb.2)) (by simp), o4_6, hE⟩) ⟨rfl, rfl, trivial⟩
    first | (simp only [decide_eq_true_eq, decide_eq_false_iff_not, Bool.not_eq_true', Bool.not_eq_false', ne_eq, Decidable.not_not, Bool.not_eq_true, Bool.not_eq_false] at q126) | (dsimp only at q126) | skip
    refine At.region rfl rfl ?_
    refine Reg.pur rfl rfl rfl rfl (Pur.eql rfl rfl) ?_
    refine Reg.pur rfl rfl rfl rfl (Pur.asg rfl) ?_
    refine Reg.nil ?_
    refine At.cond rfl rfl (fun q138 => ?_) (fun q138 => ?_)
    · first | (simp only [decide_eq_true_eq, decide_eq_false_iff_not, Bool.not_eq_true', Bool.not_eq_false', ne_eq, Decidable.not_not, Bool.not_eq_true, Bool.not_eq_false] at q138) | (dsimp only at q138) | skip
      refine At.region rfl rfl ?_
      refine Reg.pur rfl rfl rfl rfl (Pur.fld _ fo55_0 rfl) ?_
      refine Reg.lod rfl rfl rfl rfl (Lod.ld sc53 rfl o4_6.blk (by first | rfl | (simp; done))) ?_
      refine Reg.pur rfl rfl rfl rfl (Pur.cutH es53 rfl rfl (by omega) (by omega)) ?_
      refine Reg.pur rfl rfl rfl rfl (Pur.fld _ fo55_0 rfl) ?_
      refine Reg.op0 rfl rfl rfl (Does.st sc53 rfl rfl rfl o4_6 (by first | decide | (simp; done) | (simp; omega) | omega)) ?_
      rintro _ H34_4 hu34_4
      have z34_4 := hu34_4.size
      replace hE := hE.upw hu34_4 (by omega)
      replace o4_4 := o4_4.upw hu34_4 (by omega)
      replace o4_6 := hu34_4.own
      refine Reg.nil ?_
      exact At.meets rfl (hJ [vNode 3, bNode true] _ ⟨nine_lit rfl, (by simp), tf_cut, take_sl9 (i := 2) (sl_own (L := tf0) (wide9 (nine_lit rfl)) (by decide) o4_4 (by decide)) (by decide), o4_6, hE⟩) ⟨rfl, rfl, trivial⟩
    first | (simp only [decide_eq_true_eq, decide_eq_false_iff_not, Bool.not_eq_true', Bool.not_eq_false', ne_eq, Decidable.not_not, Bool.not_eq_true, Bool.not_eq_false] at q138) | (dsimp only at q138) | skip
    refine At.region rfl rfl ?_
    refine Reg.pur rfl rfl rfl rfl (Pur.fld _ fo55_0 rfl) ?_
    refine Reg.lod rfl rfl rfl rfl (Lod.ld sc53 rfl o4_6.blk (by first | rfl | (simp; done))) ?_
    refine Reg.pur rfl rfl rfl rfl (Pur.mv rfl) ?_
    refine Reg.pur rfl rfl rfl rfl (Pur.idx _ es53 rfl rfl (by omega) (by omega)) ?_
    refine Reg.pur rfl rfl rfl rfl (Pur.fld _ fo65_1 rfl) ?_
    refine Reg.op0 rfl rfl rfl (Does.st sc3 rfl rfl rfl o4_4 (by first | decide | (simp; done) | (simp; omega) | omega)) ?_
    rintro _ H8_5 hu8_5
    have z8_5 := hu8_5.size
    replace hE := hE.upw hu8_5 (by omega)
    replace o4_6 := o4_6.upw hu8_5 (by omega)
    replace o4_4 := hu8_5.own
    refine Reg.nil ?_
    exact At.meets rfl (hJ [vNode 3, bNode true, [3, d, 0, 1, 0, 0, 0, 0, -1]] _ ⟨nine_lit rfl, (by simp), typM_bad (x := [3, d, 0, 1, 0, 0, 0, 0, -1]) (by simp) (nod_frow (.inr (by omega))), sl_own (wide9 (nine_lit rfl)) (by decide) (o4_4.of (by simp [Is])) (by simp), o4_6, hE⟩) ⟨rfl, rfl, trivial⟩
  obtain ⟨h9, h3, hno, hS, o4_6, hE⟩ := hs
  have e1 : txV L = (⟨#[]⟩, 700) := txV_no hno
  have e2 : varsT L = ([], []) := by unfold varsT; rw [hno]; rfl
  have e3 : funL L [0, 0, 0, 0, -1] [[0, 0, 0, 0, 0, 0, 0, 0, 0]] = ([], 700) := funL_no (fun k => by rw [hno] at k; cases k.1)
  have z_hE := hE.lt
  have z_hS := hS.lt
  have z_o4_6 := o4_6.lt
  refine At.region rfl rfl ?_
  refine Reg.lod rfl rfl rfl rfl (Lod.ldn ag55 rfl o4_6.blk (whole rfl) rfl) ?_
  refine Reg.op rfl rfl rfl rfl (Does.call rfl (typText_ok h9 (hT.ext hE) (hS) (by omega))) ?_
  rintro _ H35_1 ⟨rfl, hE35_1⟩
  have z35_1 := hE35_1.lt
  replace hE := hE.ext hE35_1
  replace hS := hS.ext hE35_1
  replace o4_6 := o4_6.ext hE35_1
  rw [e1]
  refine Reg.pur rfl rfl rfl rfl (Pur.mv rfl) ?_
  refine Reg.pur rfl rfl rfl rfl (Pur.ext rfl rfl) ?_
  refine Reg.pur rfl rfl rfl rfl (Pur.ext rfl rfl) ?_
  refine Reg.pur rfl rfl rfl rfl (Pur.asg rfl) ?_
  refine Reg.pur rfl rfl rfl rfl (Pur.asg rfl) ?_
  refine Reg.nil ?_
  refine At.region rfl rfl ?_
  refine Reg.lod rfl rfl rfl rfl (Lod.ldn ag55 rfl o4_6.blk (whole rfl) rfl) ?_
  refine Reg.op rfl rfl rfl rfl (Does.call rfl (typVars_ok h9 hS (by omega))) ?_
  rintro v36_1 H36_1 ⟨hE36_1, Aa, c1, Ab, c2, rfl, hga, hgb⟩
  have z36_1 := hE36_1.lt
  replace hE := hE.ext hE36_1
  replace hS := hS.ext hE36_1
  replace o4_6 := o4_6.ext hE36_1
  rw [hno]
  refine Reg.pur rfl rfl rfl rfl (Pur.mv rfl) ?_
  refine Reg.pur rfl rfl rfl rfl (Pur.ext rfl rfl) ?_
  refine Reg.pur rfl rfl rfl rfl (Pur.ext rfl rfl) ?_
  refine Reg.pur rfl rfl rfl rfl (Pur.ext rfl rfl) ?_
  refine Reg.pur rfl rfl rfl rfl (Pur.asg rfl) ?_
  refine Reg.pur rfl rfl rfl rfl (Pur.asg rfl) ?_
  refine Reg.pur rfl rfl rfl rfl (Pur.asg rfl) ?_
  refine Reg.nil ?_
  refine At.region rfl rfl ?_
  refine Reg.lod rfl rfl rfl rfl (Lod.ldn ag55 rfl o4_6.blk (whole rfl) rfl) ?_
  refine Reg.pur rfl rfl rfl rfl (Pur.bld (cs := [_, _, _, _, _]) pl24 zc24 rfl rfl ⟨rfl, rfl, rfl, rfl, rfl, rfl⟩) ?_
  refine Reg.pur rfl rfl rfl rfl (Pur.bld (cs := [_, _, _, _, _, _, _, _, _]) pl65 zc65 rfl rfl ⟨rfl, rfl, rfl, rfl, rfl, rfl, rfl, rfl, rfl, rfl⟩) ?_
  refine Reg.op rfl rfl rfl rfl (Does.bslA ([Is [0, 0, 0, 0, 0, 0, 0, 0, 0]]) slA53 rfl rfl rfl rfl rfl rfl) ?_
  rintro _ H37_3 ⟨rfl, hp37_3⟩
  have hn37_3 := New.of_eq hp37_3
  have z37_3 := hn37_3.size
  replace hE := hE.ext hn37_3.ext
  replace hS := hS.ext hn37_3.ext
  replace o4_6 := o4_6.ext hn37_3.ext
  have o37_3 := hn37_3.own
  have hSi : SlT H37_3 Is 9 _ [[0, 0, 0, 0, 0, 0, 0, 0, 0]] := sl_own (L := [[0, 0, 0, 0, 0, 0, 0, 0, 0]]) (wide9 (nine_lit rfl)) (by decide) o37_3 (by decide)
  have z_hSi := hSi.lt
  refine Reg.pur rfl rfl rfl rfl (Pur.bld (cs := [_]) pl55 zc55 rfl rfl ⟨rfl, rfl⟩) ?_
  refine Reg.op rfl rfl rfl rfl (Does.call rfl (funP_ok (r := [0, 0, 0, 0, -1]) h9 (nine_lit rfl) rfl hS hSi (by omega) (by decide))) ?_
  rintro v37_5 H37_5 ⟨A3, c3, rfl, hg3, hE37_5⟩
  have z37_5 := hE37_5.lt
  replace hE := hE.ext hE37_5
  replace hS := hS.ext hE37_5
  replace o4_6 := o4_6.ext hE37_5
  replace o37_3 := o37_3.ext hE37_5
  replace hSi := hSi.ext hE37_5
  rw [e3] at hg3 ⊢
  refine Reg.pur rfl rfl rfl rfl (Pur.mv rfl) ?_
  refine Reg.pur rfl rfl rfl rfl (Pur.ext rfl rfl) ?_
  refine Reg.pur rfl rfl rfl rfl (Pur.ext rfl rfl) ?_
  refine Reg.op rfl rfl rfl rfl (Does.alloc zc55) ?_
  rintro _ H37_9 ⟨rfl, hn37_9⟩
  have z37_9 := hn37_9.size
  replace hE := hE.ext hn37_9.ext
  replace hS := hS.ext hn37_9.ext
  replace o4_6 := o4_6.ext hn37_9.ext
  replace o37_3 := o37_3.ext hn37_9.ext
  replace hSi := hSi.ext hn37_9.ext
  have o37_9 := hn37_9.own
  refine Reg.op0 rfl rfl rfl (Does.stn ag55 rfl rfl (by first | rfl | exact ones_Is _) (by first | rfl | (simp [*]; done)) o37_9 (by first | decide | (simp; done) | (simp; omega) | omega)) ?_
  rintro _ H37_10 hu37_10
  have z37_10 := hu37_10.size
  replace hE := hE.upw hu37_10 (by omega)
  replace hS := hS.upw hu37_10 (by omega)
  replace o4_6 := o4_6.upw hu37_10 (by omega)
  replace o37_3 := o37_3.upw hu37_10 (by omega)
  replace hSi := hSi.upw hu37_10 (by omega)
  replace o37_9 := hu37_10.own
  first | rw [over (by first | rfl | (simp; done))] at o37_9 | skip
  refine Reg.pur rfl rfl rfl rfl (Pur.asg rfl) ?_
  refine Reg.nil ?_
  refine At.region rfl rfl ?_
  refine Reg.lod rfl rfl rfl rfl (Lod.ldn ag55 rfl o4_6.blk (whole rfl) rfl) ?_
  refine Reg.op rfl rfl rfl rfl (Does.call rfl (typMay_ok _ h9 hS (by omega))) ?_
  rintro _ H38_1 ⟨rfl, hE38_1⟩
  have z38_1 := hE38_1.lt
  replace hE := hE.ext hE38_1
  replace hS := hS.ext hE38_1
  replace o4_6 := o4_6.ext hE38_1
  replace o37_3 := o37_3.ext hE38_1
  replace hSi := hSi.ext hE38_1
  replace o37_9 := o37_9.ext hE38_1
  refine Reg.pur rfl rfl rfl rfl (Pur.not rfl) ?_
  refine Reg.pur rfl rfl rfl rfl (Pur.mv rfl) ?_
  refine Reg.known (b' := true) 167 rfl (by rw [hno]; rfl) ?_
  refine Reg.gpur rfl rfl rfl rfl rfl rfl (Pur.mv rfl) ?_
  refine Reg.gop rfl rfl rfl rfl rfl rfl (Does.call rfl (numE_ok _ _)) ?_
  rintro _ H38_1 ⟨rfl, rfl⟩
  refine Reg.gpur rfl rfl rfl rfl rfl rfl (Pur.eql rfl rfl) ?_
  refine Reg.pur rfl rfl rfl rfl (Pur.pickT rfl rfl) ?_
  refine Reg.pur rfl rfl rfl rfl (Pur.mv rfl) ?_
  refine Reg.known (b' := true) 172 rfl (by first | rfl | simp [hno]) ?_
  refine Reg.gpur rfl rfl rfl rfl rfl rfl (Pur.mv rfl) ?_
  refine Reg.gop rfl rfl rfl rfl rfl rfl (Does.call rfl (numE_ok _ _)) ?_
  rintro _ H38_1 ⟨rfl, rfl⟩
  refine Reg.gpur rfl rfl rfl rfl rfl rfl (Pur.eql rfl rfl) ?_
  refine Reg.pur rfl rfl rfl rfl (Pur.pickT rfl rfl) ?_
  refine Reg.pur rfl rfl rfl rfl (Pur.mv rfl) ?_
  refine Reg.known (b' := true) 177 rfl (by first | rfl | simp [hno]) ?_
  refine Reg.gpur rfl rfl rfl rfl rfl rfl (Pur.mv rfl) ?_
  refine Reg.gop rfl rfl rfl rfl rfl rfl (Does.call rfl (numE_ok _ _)) ?_
  rintro _ H38_1 ⟨rfl, rfl⟩
  refine Reg.gpur rfl rfl rfl rfl rfl rfl (Pur.eql rfl rfl) ?_
  refine Reg.pur rfl rfl rfl rfl (Pur.pickT rfl rfl) ?_
  refine Reg.pur rfl rfl rfl rfl (Pur.asg rfl) ?_
  refine Reg.nil ?_
  refine At.ret rfl Tryd.func15 rfl ?_
  exact ⟨rfl, hE⟩
end Go.Proofs.YtlfillhffpiffaaDoor

namespace Go.Proofs.YtlfillhffpiffaaDoor
set_option linter.unusedSimpArgs false
set_option linter.unusedVariables false
set_option maxRecDepth 100000
open Go Go.Fx Go.Proofs

theorem own : ownKnob Tryd.prog.godebug = none := by kernel_rfl
theorem laidOut : laidOutB Tryd.prog = true := by kernel_rfl
def litsOf : DataW Unit → Array Value
  | .agg l => (l.map fun | .lit (.int k n) => Value.int k n | _ => undef).toArray
  | _ => #[]
def put (a : Array Value) : Obj → Obj
  | .cells _ t fr => .cells a t fr
  | o => o
noncomputable def laidWorld (os : Os) : World :=
  let w0 := World.holding Tryd.prog os ⟨#[], #[], []⟩
  { w0 with heap := ((w0.heap.modify 0 (put (litsOf Rows.laid_internal_strconv_uint64pow10))).modify 2 (put (litsOf Rows.laid_math_bits_deBruijn32tab))).modify 3 (put (litsOf Rows.laid_math_bits_deBruijn64tab)) }
theorem laid_met (os : Os) (args : Array Value) : laidMet Tryd.prog Rows.rowsRow.laid ((laidWorld os).forCall (fun _ _ => 0) ⟨#[], args, []⟩).memory :=
  laidMet_of_run' 8 (by kernel_rfl) (by kernel_rfl)
theorem tab_eq : (Rows.laid_internal_strconv_uint64pow10 : DataW Unit) = Lib.tabData .u64 Lib.pow10Tab := by kernel_rfl
theorem tens_of {W : World} (h : laidMet Tryd.prog Rows.rowsRow.laid W) : Tens W.heap := by
  obtain ⟨g, t, cs, fuel, p, hg, hty, hvar, hd⟩ := Lib.laidMet.reads h (.tail _ (.tail _ (.head _)))
  obtain rfl := Option.some.inj ((show Tryd.prog.globalNamed _ = some 0 by kernel_rfl).symm.trans hg)
  obtain rfl := Option.some.inj ((show (Tryd.prog.globals[0]?).map (·.type) = some 172 by kernel_rfl).symm.trans hty)
  rw [tab_eq] at hd
  have hcs := Lib.cells_of_tab Tryd.underlying172 Tryd.underlying93 (by kernel_rfl) (by kernel_rfl) hd
  unfold World.var? at hvar
  rw [hg] at hvar
  simp only [Option.bind_some] at hvar
  cases hx : W.heap[0]? with
  | none => rw [hx] at hvar; cases hvar
  | some ob =>
    rw [hx] at hvar
    cases ob with
    | cells c T fr =>
      simp only [Option.some.injEq] at hvar
      subst hvar
      exact ⟨T, fr, by rw [hx, tens, ← hcs]⟩
    | _ => cases hvar
end Go.Proofs.YtlfillhffpiffaaDoor

namespace Go.Proofs.YtlfillhffpiffaaDoor
set_option linter.unusedSimpArgs false
set_option linter.unusedVariables false
set_option maxRecDepth 8000
set_option maxHeartbeats 1000000
open Go Go.Fx Go.Proofs
namespace FactsDTyE

end FactsDTyE
open FactsDTyE

def rnN (d : Int) (x : List Int) : List Int :=
  if x.getD 0 0 = 2 then x.set 1 (x.getD 1 0 + d) else if x.getD 0 0 = 3 ∧ 0 ≤ x.getD 8 0 then x.set 8 (x.getD 8 0 + d) else x
def rnR (x : List Int) : Prop := 0 ≤ x.getD 1 0 ∧ x.getD 1 0 < 4032 ∧ -1 ≤ x.getD 8 0 ∧ x.getD 8 0 < 4032
theorem rnN_len (d : Int) (x : List Int) : (rnN d x).length = x.length := by unfold rnN; split; · simp
                                                                             · split <;> simp
theorem rnN_nine {d : Int} {L : List (List Int)} (h : Nine L) : Nine (L.map (rnN d)) := by
  intro x hx
  obtain ⟨y, hy, rfl⟩ := List.mem_map.1 hx
  rw [rnN_len]; exact h y hy
def mdN (d : Int) (L : List (List Int)) (i : Nat) : List (List Int) := (L.take i).map (rnN d) ++ L.drop i
theorem mdN_len (d : Int) (L : List (List Int)) (i : Nat) : (mdN d L i).length = L.length := by
  unfold mdN; simp; omega
theorem mdN_nine {d : Int} {L : List (List Int)} (h : Nine L) (i : Nat) : Nine (mdN d L i) := by
  intro x hx
  unfold mdN at hx
  rcases List.mem_append.1 hx with hx | hx
  · exact rnN_nine (fun y hy => h y (List.mem_of_mem_take hy)) x hx
  · exact h x (List.mem_of_mem_drop hx)
theorem mdN_all (d : Int) (L : List (List Int)) : mdN d L L.length = L.map (rnN d) := by
  unfold mdN; rw [List.take_of_length_le (Nat.le_refl _), List.drop_of_length_le (Nat.le_refl _), List.append_nil]
theorem flatA (A B : List (List Int)) : (A ++ B).flatMap Is = A.flatMap Is ++ B.flatMap Is := List.flatMap_append
theorem mdN_step {d : Int} {L : List (List Int)} (hL : Nine L) {i : Nat} (h : i < L.length) {c : List Value} (hc : c.take (L.length * 9) = (mdN d L i).flatMap Is) (hl : L.length * 9 ≤ c.length) {y : List Int} (hy : y = rnN d L[i]) :
    ((c.take (0 + (i : Int).toNat * 9) ++ Is y ++ c.drop (0 + (i : Int).toNat * 9 + 9))).take (L.length * 9) = (mdN d L (i + 1)).flatMap Is := by
  subst hy
  have hi : (i : Int).toNat = i := by omega
  rw [hi, Nat.zero_add]
  have hce : c = (mdN d L i).flatMap Is ++ c.drop (L.length * 9) := by rw [← hc, List.take_append_drop]
  generalize c.drop (L.length * 9) = rest at hce
  have hm : mdN d L i = (L.take i).map (rnN d) ++ (L[i] :: L.drop (i + 1)) := by unfold mdN; rw [dropL h]
  rw [hm, flatA, List.flatMap_cons] at hce
  have l1 : (((L.take i).map (rnN d)).flatMap Is).length = i * 9 := by
    rw [flat_len (wide9 (rnN_nine (fun y hy => hL y (List.mem_of_mem_take hy)))), List.length_map, List.length_take, Nat.min_eq_left (by omega)]
  have l2 : (Is L[i]).length = 9 := by simp [Is, hL _ (List.getElem_mem h)]
  have l3 : ((L.drop (i + 1)).flatMap Is).length = (L.length - (i + 1)) * 9 := by
    rw [flat_len (wide9 (fun y hy => hL y (List.mem_of_mem_drop hy))), List.length_drop]
  have l4 : (Is (rnN d L[i])).length = 9 := by simp [Is, rnN_len, hL _ (List.getElem_mem h)]
  have hm2 : mdN d L (i + 1) = (L.take i).map (rnN d) ++ (rnN d L[i] :: L.drop (i + 1)) := by
    unfold mdN
    rw [List.take_succ_eq_append_getElem h, List.map_append, List.append_assoc]; rfl
  rw [hm2, flatA, List.flatMap_cons]
  generalize ((L.take i).map (rnN d)).flatMap Is = F1 at *
  generalize Is L[i] = X at *
  generalize Is (rnN d L[i]) = Y at *
  generalize (L.drop (i + 1)).flatMap Is = F2 at *
  subst hce
  have t1 : (F1 ++ (X ++ F2) ++ rest).take (i * 9) = F1 := by rw [List.append_assoc, ← l1, List.take_left]
  have t2 : (F1 ++ (X ++ F2) ++ rest).drop (i * 9 + 9) = F2 ++ rest := by
    rw [show F1 ++ (X ++ F2) ++ rest = (F1 ++ X) ++ (F2 ++ rest) by simp, show i * 9 + 9 = (F1 ++ X).length by rw [List.length_append]; omega, List.drop_left]
  rw [t1, t2, show F1 ++ Y ++ (F2 ++ rest) = (F1 ++ (Y ++ F2)) ++ rest by simp]
  rw [show L.length * 9 = (F1 ++ (Y ++ F2)).length by simp only [List.length_append]; omega, List.take_left]
theorem mdN_get {d : Int} {L : List (List Int)} (hL : Nine L) {i : Nat} (h : i < L.length) {c : List Value} (hc : c.take (L.length * 9) = (mdN d L i).flatMap Is) : (c.drop (0 + (i : Int).toNat * 9)).take 9 = Is L[i] := by
  have hi : (i : Int).toNat = i := by omega
  rw [hi, Nat.zero_add, take_mid hc (by omega)]
  have hlt : i < (mdN d L i).length := by rw [mdN_len]; exact h
  have h1 := Go.Fx.flat_at (mdN d L i) i (wide9 (mdN_nine hL i)) hlt
  rw [h1]
  congr 1
  have : (mdN d L i)[i]? = some L[i] := by
    unfold mdN
    rw [List.getElem?_append_right (by simp; omega)]
    simp [Nat.min_eq_left (Nat.le_of_lt h), List.getElem?_eq_getElem h]
  rw [List.getElem?_eq_getElem hlt] at this
  exact Option.some.inj this
def Cel (L : List (List Int)) (d : Int) (g : Nat) (A : Option Addr) (B : Nat) (i : Nat) (c : List Value) (H : Heap) : Prop :=
  L.length = 0 ∨ (B ≤ g ∧ A = some ⟨g, 0, none⟩ ∧ Own H g c ∧ L.length * 9 ≤ c.length ∧ c.take (L.length * 9) = (mdN d L i).flatMap Is)
theorem Cel.ext {L : List (List Int)} {d : Int} {g : Nat} {A : Option Addr} {B : Nat} {i : Nat} {c : List Value} {H H' : Heap} (h : Cel L d g A B i c H) (hE : Ext H H') : Cel L d g A B i c H' :=
  h.imp id (fun ⟨h1, h2, h3, h4, h5⟩ => ⟨h1, h2, h3.ext hE, h4, h5⟩)
theorem Cel.lt {L : List (List Int)} {d : Int} {g : Nat} {A : Option Addr} {B : Nat} {i : Nat} {c : List Value} {H : Heap} (h : Cel L d g A B i c H) : L.length = 0 ∨ g < H.size :=
  h.imp id (fun ⟨h1, h2, h3, h4, h5⟩ => h3.lt)
theorem Cel.upw {L : List (List Int)} {d : Int} {g : Nat} {A : Option Addr} {B : Nat} {i : Nat} {c : List Value} {H H' : Heap} {b : Nat} {xs : List Value} (h : Cel L d g A B i c H) (hu : Upd H H' b xs) (hne : L.length = 0 ∨ g ≠ b) : Cel L d g A B i c H' := by
  rcases h with h0 | ⟨h1, h2, h3, h4, h5⟩
  · exact .inl h0
  · rcases hne with h0 | hne
    · exact .inl h0
    · exact .inr ⟨h1, h2, h3.upw hu hne, h4, h5⟩
theorem own_cells {d : Int} {L : List (List Int)} {A : Option Addr} {cap : Nat} {B : Nat} {H : Heap} (h : OwnS H B 65 9 (.slice A L.length cap) L.length (L.flatMap Is)) :
    L.length ≤ cap ∧ cap ≤ maxLen ∧ (A = none → cap = 0) ∧ ∃ g c, Cel L d g A B 0 c H := by
  obtain ⟨_, ⟨h1, h0⟩ | ⟨g, cap, cur, h1, h2, h3, h4, h5, h6, h7⟩⟩ := h
  · simp only [Value.slice.injEq] at h1
    obtain ⟨rfl, _, rfl⟩ := h1
    exact ⟨by omega, by decide, fun _ => rfl, 0, [], .inl h0⟩
  · simp only [Value.slice.injEq] at h1
    obtain ⟨rfl, _, rfl⟩ := h1
    have hl : cur.toList.length = cap * 9 := by simpa using h6
    exact ⟨h4, h5, (fun h => by cases h), g, cur.toList, .inr ⟨h2, rfl, ⟨_, by simpa using h3⟩, by omega, by rw [h7]; rfl⟩⟩
end Go.Proofs.YtlfillhffpiffaaDoor

namespace Go.Proofs.YtlfillhffpiffaaDoor
set_option linter.unusedSimpArgs false
set_option linter.unusedVariables false
set_option maxRecDepth 8000
set_option maxHeartbeats 1000000
open Go Go.Fx Go.Proofs
namespace FactsDTyG

end FactsDTyG
open FactsDTyG

theorem all_congr {α : Type} {f g : α → Bool} : ∀ {L : List α}, (∀ x ∈ L, f x = g x) → L.all f = L.all g
  | [], _ => rfl
  | x :: L, h => by
    simp only [List.all_cons]
    rw [h x List.mem_cons_self, all_congr fun y hy => h y (List.mem_cons_of_mem _ hy)]
theorem nine_form {x : List Int} (h : x.length = 9) : ∃ a b c d e f g i j, x = [a, b, c, d, e, f, g, i, j] := by
  match x, h with
  | [a, b, c, d, e, f, g, i, j], _ => exact ⟨a, b, c, d, e, f, g, i, j, rfl⟩
def shA (d : Int) : Asg := ⟨fun v => .var (v + d), fun v => [0, 0, 0, 0, v + d]⟩
def shB (d : Int) : Asg := ⟨fun v => .var (v - d), fun v => [0, 0, 0, 0, if d ≤ v then v - d else v]⟩
theorem shA_ok {d : Int} (h : 1 ≤ d) : (shA d).Ok :=
  ⟨fun v _ => rfl, fun v _ i hi => by
    match i, hi with
    | 0, _ => exact Int.le_refl 0
    | 1, _ => exact Int.le_refl 0
    | 2, _ => exact Int.le_refl 0
    | 3, _ => exact Int.le_refl 0, fun v hv => by show -1 ≤ v + d; omega⟩
theorem shB_ok {d : Int} (h : 1 ≤ d) : (shB d).Ok :=
  ⟨fun v _ => rfl, fun v _ i hi => by
    match i, hi with
    | 0, _ => exact Int.le_refl 0
    | 1, _ => exact Int.le_refl 0
    | 2, _ => exact Int.le_refl 0
    | 3, _ => exact Int.le_refl 0, fun v hv => by show -1 ≤ if d ≤ v then v - d else v; split <;> omega⟩
theorem sh_row {d a b c e t : Int} : (shA d).row [a, b, c, e, t] = [a, b, c, e, if 0 ≤ t then t + d else t] := by
  by_cases h : t < 0
  · rw [Asg.row_no (r := [a, b, c, e, t]) h, if_neg (by omega)]
  · rw [Asg.row_yes (r := [a, b, c, e, t]) h, if_pos (by omega)]
    show adR [a, b, c, e, t] [0, 0, 0, 0, t + d] = _
    rw [adR_five]; simp
theorem sh_back {d a b c e t : Int} (hd : 1 ≤ d) : (shB d).row [a, b, c, e, if 0 ≤ t then t + d else t] = [a, b, c, e, t] := by
  by_cases h : 0 ≤ t
  · rw [if_pos h, Asg.row_yes (r := [a, b, c, e, t + d]) (by show ¬ t + d < 0; omega)]
    show adR [a, b, c, e, t + d] [0, 0, 0, 0, if d ≤ t + d then t + d - d else t + d] = _
    rw [if_pos (by omega), adR_five]; simp
  · rw [if_neg h, Asg.row_no (r := [a, b, c, e, t]) (by show t < 0; omega)]
theorem sh_sz (d : Int) : ∀ p : Tm, ((shA d).tm p).sz = p.sz
  | .bas _ => rfl
  | .var _ => rfl
  | .fn a r b => by show ((shA d).tm a).sz + ((shA d).tm b).sz + 1 = a.sz + b.sz + 1; rw [sh_sz d a, sh_sz d b]
theorem sh_inv {d : Int} (hd : 1 ≤ d) : ∀ {p : Tm}, p.ok → (shB d).tm ((shA d).tm p) = p
  | .bas _, _ => rfl
  | .var v, _ => by show Tm.var (v + d - d) = _; rw [Int.add_sub_cancel]
  | .fn a r b, h => by
    obtain ⟨r0, r1, r2, r3, t, rfl⟩ := row_five h.2.1
    show Tm.fn ((shB d).tm ((shA d).tm a)) ((shB d).row ((shA d).row _)) ((shB d).tm ((shA d).tm b)) = _
    rw [sh_inv hd h.1, sh_inv hd h.2.2.2, sh_row, sh_back hd]
theorem rnN_fn {d a b c e f g t : Int} : rnN d [3, 0, a, b, c, e, f, g, t] = [3, 0, a, b, c, e, f, g, if 0 ≤ t then t + d else t] := by
  unfold rnN
  rw [if_neg (show ¬ ([3, 0, a, b, c, e, f, g, t] : List Int).getD 0 0 = 2 from (by decide : ¬ (3 : Int) = 2))]
  by_cases h : 0 ≤ t
  · rw [if_pos (show ([3, 0, a, b, c, e, f, g, t] : List Int).getD 0 0 = 3 ∧ 0 ≤ ([3, 0, a, b, c, e, f, g, t] : List Int).getD 8 0 from ⟨rfl, h⟩), if_pos h]; rfl
  · rw [if_neg (fun k => h k.2), if_neg h]
theorem sh_enc (d : Int) : ∀ {p : Tm} (k : Int), p.ok → ((shA d).tm p).enc k = (p.enc k).map (rnN d)
  | .bas b, k, _ => by cases b <;> rfl
  | .var v, k, _ => rfl
  | .fn a r b, k, h => by
    obtain ⟨r0, r1, r2, r3, t, rfl⟩ := row_five h.2.1
    show (Tm.fn ((shA d).tm a) ((shA d).row _) ((shA d).tm b)).enc k = _
    simp only [Tm.enc, List.map_append, List.map_cons, List.map_nil]
    rw [sh_enc d k h.1, sh_sz, sh_sz, sh_enc d _ h.2.2.2, sh_row]
    congr 2
    exact (rnN_fn (a := k + a.sz - 1) (b := k + a.sz + b.sz - 1)).symm
theorem sh_okT {d : Int} (h1 : 1 ≤ d) (h2 : d ≤ 64) : ∀ {p : Tm} (k : Int), p.ok → (∀ x ∈ p.enc k, rnR x) → ((shA d).tm p).ok
  | .bas b, k, _, _ => trivial
  | .var v, k, h, hx => by
    have h3 : rnR (vNode v) := hx _ (by simp [Tm.enc])
    have h4 : v < 4032 := h3.2.1
    have h5 : 0 ≤ v := h3.1
    show 0 ≤ v + d ∧ v + d < 4096
    omega
  | .fn a r b, k, h, hx => by
    simp only [Tm.enc, List.mem_append, List.mem_singleton] at hx
    have ha := sh_okT h1 h2 k h.1 (fun x hm => hx x (.inl (.inl hm)))
    have hb := sh_okT h1 h2 _ h.2.2.2 (fun x hm => hx x (.inl (.inr hm)))
    have hn := hx _ (.inr rfl)
    obtain ⟨r0, r1, r2, r3, t, rfl⟩ := row_five h.2.1
    have ht : -1 ≤ t ∧ t < 4032 := ⟨hn.2.2.1, hn.2.2.2⟩
    refine ⟨ha, by rw [sh_row]; rfl, ?_, hb⟩
    rw [sh_row]
    have hr := h.2.2.1
    unfold rowM at hr ⊢
    rw [Bool.and_eq_true] at hr ⊢
    refine ⟨hr.1, decide_eq_true ?_⟩
    show -1 ≤ (if 0 ≤ t then t + d else t) ∧ (if 0 ≤ t then t + d else t) < 4096
    split <;> omega
theorem rnN_nil (d : Int) : rnN d [] = [] := by unfold rnN; simp
theorem rnN_at (d : Int) (x : List Int) {i : Nat} (h1 : i ≠ 1) (h8 : i ≠ 8) : (rnN d x).getD i 0 = x.getD i 0 := by
  unfold rnN
  split
  · simp [List.getD_eq_getElem?_getD, List.getElem?_set, Ne.symm h1]
  · split
    · simp [List.getD_eq_getElem?_getD, List.getElem?_set, Ne.symm h8]
    · rfl
theorem rn_el (d : Int) (L : List (List Int)) (z : Int) : el (L.map (rnN d)) z = rnN d (el L z) := by
  unfold el
  rw [List.getD_eq_getElem?_getD, List.getD_eq_getElem?_getD, List.getElem?_map]
  cases L[z.toNat]? with
  | none => exact (rnN_nil d).symm
  | some x => rfl
theorem rn_bgn (d : Int) (L : List (List Int)) : ∀ (f : Nat) (z : Int), bgn (L.map (rnN d)) f z = bgn L f z
  | 0, z => rfl
  | f + 1, z => by
    rw [bgn_succ, bgn_succ, rn_el, rnN_at d _ (by decide) (by decide), rnN_at d _ (by decide) (by decide), rnN_at d _ (by decide) (by decide), rn_bgn d L f, rn_bgn d L f]
theorem rn_nod {d : Int} (h1 : 1 ≤ d) (h2 : d ≤ 64) {x : List Int} (h9 : x.length = 9) (hr : rnR x) : nodM (rnN d x) = nodM x := by
  obtain ⟨k, v, a, b, c, e, f, g, t, rfl⟩ := nine_form h9
  obtain ⟨hv1, hv2, ht1, ht2⟩ := hr
  change 0 ≤ v at hv1
  change v < 4032 at hv2
  change -1 ≤ t at ht1
  change t < 4032 at ht2
  by_cases hk : k = 2
  · subst hk
    have e1 : rnN d [2, v, a, b, c, e, f, g, t] = [2, v + d, a, b, c, e, f, g, t] := rfl
    rw [e1]
    unfold nodM
    show (if (2 : Int) = 3 then _ else if (2 : Int) = 2 then decide (0 ≤ v + d ∧ v + d < 4096) && decide (([2, v + d, a, b, c, e, f, g, t] : List Int) = [2, v + d, 0, 0, 0, 0, 0, 0, 0]) else _) = (if (2 : Int) = 3 then _ else if (2 : Int) = 2 then decide (0 ≤ v ∧ v < 4096) && decide (([2, v, a, b, c, e, f, g, t] : List Int) = [2, v, 0, 0, 0, 0, 0, 0, 0]) else _)
    rw [if_neg (by decide), if_pos rfl, if_neg (by decide), if_pos rfl, decide_eq_true (by omega : 0 ≤ v + d ∧ v + d < 4096), decide_eq_true (by omega : 0 ≤ v ∧ v < 4096)]
    simp
  · by_cases h3 : k = 3 ∧ 0 ≤ t
    · obtain ⟨rfl, h3⟩ := h3
      have e1 : rnN d [3, v, a, b, c, e, f, g, t] = [3, v, a, b, c, e, f, g, t + d] := by
        unfold rnN
        rw [if_neg (show ¬ ([3, v, a, b, c, e, f, g, t] : List Int).getD 0 0 = 2 from (by decide : ¬ (3 : Int) = 2)), if_pos (show ([3, v, a, b, c, e, f, g, t] : List Int).getD 0 0 = 3 ∧ 0 ≤ ([3, v, a, b, c, e, f, g, t] : List Int).getD 8 0 from ⟨rfl, h3⟩)]; rfl
      rw [e1]
      unfold nodM
      show (if (3 : Int) = 3 then (rowM [c, e, f, g, t + d] && decide (v = 0)) else _) = (if (3 : Int) = 3 then (rowM [c, e, f, g, t] && decide (v = 0)) else _)
      rw [if_pos rfl, if_pos rfl]
      have : rowM [c, e, f, g, t + d] = rowM [c, e, f, g, t] := by
        unfold rowM
        show ([c, e, f, g].all okc && decide (-1 ≤ t + d ∧ t + d < 4096)) = ([c, e, f, g].all okc && decide (-1 ≤ t ∧ t < 4096))
        rw [decide_eq_true (by omega : -1 ≤ t + d ∧ t + d < 4096), decide_eq_true (by omega : -1 ≤ t ∧ t < 4096)]
      rw [this]
    · have e1 : rnN d [k, v, a, b, c, e, f, g, t] = [k, v, a, b, c, e, f, g, t] := by
        unfold rnN
        rw [if_neg (show ¬ ([k, v, a, b, c, e, f, g, t] : List Int).getD 0 0 = 2 from hk), if_neg (show ¬ (([k, v, a, b, c, e, f, g, t] : List Int).getD 0 0 = 3 ∧ 0 ≤ ([k, v, a, b, c, e, f, g, t] : List Int).getD 8 0) from h3)]
      rw [e1]
theorem rn_typ {d : Int} (h1 : 1 ≤ d) (h2 : d ≤ 64) {L : List (List Int)} (hL : Nine L) (hr : ∀ x ∈ L, rnR x) : typM (L.map (rnN d)) = typM L := by
  unfold typM
  rw [List.length_map, rn_bgn]
  have : (L.map (rnN d)).all nodM = L.all nodM := by
    rw [List.all_map]
    apply all_congr
    intro x hx
    exact rn_nod h1 h2 (hL x hx) (hr x hx)
  rw [this]
theorem rn_text {d : Int} (h1 : 1 ≤ d) (h2 : d ≤ 64) {L : List (List Int)} (hL : Nine L) (hr : ∀ x ∈ L, rnR x) : txV (L.map (rnN d)) = txV L := by
  cases hm : typM L with
  | false => rw [txV_no hm, txV_no (by rw [rn_typ h1 h2 hL hr, hm])]
  | true =>
    obtain ⟨p, hp, rfl, hz⟩ := typ_dec hL hm
    have hq := sh_okT h1 h2 0 hp hr
    rw [← sh_enc d 0 hp, txV_enc hq (by rw [sh_sz]; exact hz), txV_enc hp hz]
    rw [tx_one (shA_ok h1) (shB_ok h1) hp rfl (sh_inv h1 hp)]
end Go.Proofs.YtlfillhffpiffaaDoor

namespace Go.Proofs.YtlfillhffpiffaaDoor
set_option linter.unusedSimpArgs false
set_option linter.unusedVariables false
set_option maxRecDepth 8000
set_option maxHeartbeats 1000000
open Go Go.Fx Go.Proofs
namespace FactsDTyF
theorem ag55 : ag Tryd.prog 55 = some 1 := by kernel_rfl
theorem ag65 : ag Tryd.prog 65 = some 9 := by kernel_rfl
theorem es53 : esz Tryd.prog 53 = some 9 := by kernel_rfl
theorem fo24_1 : foff Tryd.prog 24 1 = some 4 := by kernel_rfl
theorem fo55_0 : foff Tryd.prog 55 0 = some 0 := by kernel_rfl
theorem fo65_0 : foff Tryd.prog 65 0 = some 0 := by kernel_rfl
theorem fo65_1 : foff Tryd.prog 65 1 = some 1 := by kernel_rfl
theorem fo65_4 : foff Tryd.prog 65 4 = some 4 := by kernel_rfl
theorem isl53 : isSl Tryd.prog 53 = true := by kernel_rfl
theorem sc3 : sc Tryd.prog 3 = true := by kernel_rfl
theorem sc53 : sc Tryd.prog 53 = true := by kernel_rfl
theorem zc55 : zc Tryd.prog 55 = some [.slice none 0 0] := by kernel_rfl
theorem zc65 : zc Tryd.prog 65 = some [.int .i64 0, .int .i64 0, .int .i64 0, .int .i64 0, .int .i64 0, .int .i64 0, .int .i64 0, .int .i64 0, .int .i64 0] := by kernel_rfl
end FactsDTyF
open FactsDTyF

theorem rn_two {d v a b c e f g t : Int} {k : Int} (h : k = 2) : [k, v + d, a, b, c, e, f, g, t] = rnN d [k, v, a, b, c, e, f, g, t] := by subst h; rfl
theorem rn_three {d v a b c e f g t : Int} {k : Int} (h : k = 3) (h8 : 0 ≤ t) : [k, v, a, b, c, e, f, g, t + d] = rnN d [k, v, a, b, c, e, f, g, t] := by
  subst h
  unfold rnN
  rw [if_neg (show ¬ ([3, v, a, b, c, e, f, g, t] : List Int).getD 0 0 = 2 from (by decide : ¬ (3 : Int) = 2)), if_pos (show ([3, v, a, b, c, e, f, g, t] : List Int).getD 0 0 = 3 ∧ 0 ≤ ([3, v, a, b, c, e, f, g, t] : List Int).getD 8 0 from ⟨rfl, h8⟩)]; rfl
theorem rn_else {d v a b c e f g t : Int} {k : Int} (h : k ≠ 2) (h3 : ¬ (k = 3 ∧ 0 ≤ t)) : [k, v, a, b, c, e, f, g, t] = rnN d [k, v, a, b, c, e, f, g, t] := by
  unfold rnN
  rw [if_neg (show ¬ ([k, v, a, b, c, e, f, g, t] : List Int).getD 0 0 = 2 from h), if_neg (show ¬ (([k, v, a, b, c, e, f, g, t] : List Int).getD 0 0 = 3 ∧ 0 ≤ ([k, v, a, b, c, e, f, g, t] : List Int).getD 8 0) from h3)]
theorem cel_sl {L : List (List Int)} {d : Int} {g : Nat} {A : Option Addr} {B : Nat} {c : List Value} {cap : Nat} {H : Heap} (hL : Nine L) (h : Cel L d g A B L.length c H) (h1 : L.length ≤ cap) (h2 : cap ≤ maxLen) (h3 : A = none → cap = 0) : SlT H Is 9 (.slice A (L.map (rnN d)).length cap) (L.map (rnN d)) := by
  rcases h with h0 | ⟨_, rfl, hO, _, htk⟩
  · obtain rfl : L = [] := List.length_eq_zero_iff.1 h0
    exact ⟨A, cap, rfl, by simp, h2, h3, .inl rfl⟩
  · rw [mdN_all] at htk
    exact sl_of (L := L.map (rnN d)) (o := 0) (wide9 (rnN_nine hL)) (by decide) hO.blk (by rw [List.drop_zero, List.length_map]; exact htk) (by rw [List.length_map]; exact h1) h2
theorem typText_len {A : Option Addr} {cap n : Nat} {L : List (List Int)} (hL : Nine L) {H : Heap} (hT : Tens H) (hS : SlT H Is 9 (.slice A L.length cap) L) (hl : L.length ≤ 9223372036854775807) (hn : L.length = n) :
    Ret Tryd.prog 39 [Ty A n cap] H (fun v H' => v = .tuple #[.string (txV L).1, I (txV L).2] ∧ Ext H H') := by
  subst hn; exact typText_ok hL hT hS hl

theorem typeNames_law {A : Option Addr} {ca : Nat} {L : List (List Int)} (n : Int) (hL : Nine L) {H : Heap} (hT : Tens H) (hS : SlT H Is 9 (.slice A L.length ca) L) (hm : L.length * 72 ≤ 140737488351232) :
    Ret Tryd.prog 14 [Ty A L.length ca, I n] H (fun v H' => v = .bool true ∧ Ext H H') := by
  obtain ⟨d, hd⟩ : ∃ d, d = 1 + bits .and .i64 n 63 := ⟨_, rfl⟩
  have hd3 : 1 ≤ d ∧ d ≤ 64 := by have : 0 ≤ bits .and .i64 n 63 ∧ bits .and .i64 n 63 ≤ 63 := and_le n 63 (by decide); rw [hd]; omega
  refine Ret.of_at (N := 101) Tryd.call14 Tryd.func14 rfl rfl rfl ?_
  have hE := Ext.refl H
  refine At.region rfl rfl ?_
  refine Reg.op rfl rfl rfl rfl (Does.box rfl rfl) ?_
  rintro _ H0_0 ⟨rfl, hn0_0⟩
  have z0_0 := hn0_0.size
  replace hE := hE.ext hn0_0.ext
  have o0_0 := hn0_0.own
  refine Reg.pur rfl rfl rfl rfl (Pur.asg rfl) ?_
  refine Reg.nil ?_
  refine At.region rfl rfl ?_
  refine Reg.op rfl rfl rfl rfl (Does.call rfl (awake7_ok (hT.ext hE))) ?_
  rintro _ H1_0 ⟨rfl, hE1_0⟩
  have z1_0 := hE1_0.lt
  replace hE := hE.ext hE1_0
  replace o0_0 := o0_0.ext hE1_0
  refine Reg.pur rfl rfl rfl rfl (Pur.not rfl) ?_
  refine Reg.nil ?_
  refine At.condF rfl rfl rfl ?_
  have hbb : 0 ≤ bits .and .i64 n 63 ∧ bits .and .i64 n 63 ≤ 63 := and_le n 63 (by decide)
  refine At.region rfl rfl ?_
  refine Reg.pur rfl rfl rfl rfl (Pur.mv rfl) ?_
  refine Reg.pur rfl rfl rfl rfl (Pur.and rfl rfl) ?_
  first | refine Reg.pur rfl rfl rfl rfl (Pur.add64 rfl rfl (by omega)) ?_ | refine Reg.pur rfl rfl rfl rfl (Pur.add64 rfl rfl (by assumption)) ?_ | refine Reg.pur rfl rfl rfl rfl (Pur.add rfl rfl) ?_
  refine Reg.pur rfl rfl rfl rfl (Pur.asg rfl) ?_
  refine Reg.nil ?_
  rw [← hd]
  clear hd hbb
  refine At.region rfl rfl ?_
  refine Reg.lod rfl rfl rfl rfl (Lod.ldn ag55 rfl o0_0.blk (whole rfl) rfl) ?_
  refine Reg.op rfl rfl rfl rfl (Does.call rfl (copyType_ok hL (hS.ext hE) hm)) ?_
  rintro v4_1 H4_1 ⟨Ax, cx, rfl, hox, hE4_1⟩
  have z4_1 := hE4_1.lt
  replace hE := hE.ext hE4_1
  replace o0_0 := o0_0.ext hE4_1
  obtain ⟨hc1, hc2, hc3, g, c0, hg⟩ := own_cells (d := d) hox
  have z_hg := hg.lt
  refine Reg.op rfl rfl rfl rfl (Does.alloc zc55) ?_
  rintro _ H4_2 ⟨rfl, hn4_2⟩
  have z4_2 := hn4_2.size
  replace hE := hE.ext hn4_2.ext
  replace o0_0 := o0_0.ext hn4_2.ext
  replace hg := hg.ext hn4_2.ext
  have o4_2 := hn4_2.own
  refine Reg.op0 rfl rfl rfl (Does.stn ag55 rfl rfl (by first | rfl | exact ones_Is _) (by first | rfl | (simp [*]; done)) o4_2 (by first | decide | (simp; done) | (simp; omega) | omega)) ?_
  rintro _ H4_3 hu4_3
  have z4_3 := hu4_3.size
  replace hE := hE.upw hu4_3 (by omega)
  replace o0_0 := o0_0.upw hu4_3 (by omega)
  replace hg := hg.upw hu4_3 (by omega)
  replace o4_2 := hu4_3.own
  first | rw [over (by first | rfl | (simp; done))] at o4_2 | skip
  refine Reg.nil ?_
  refine At.region rfl rfl ?_
  refine Reg.pur rfl rfl rfl rfl (Pur.asg rfl) ?_
  refine Reg.nil ?_
  refine At.loop (σ := Nat × List Value) (fun s => [(7, I s.1), (6, ptr H4_1.size 0), (5, I d), (2, ptr H.size 0)]) (fun s H' => s.1 ≤ L.length ∧ Own H' H.size [.slice A L.length ca] ∧ Own H' H4_1.size [.slice Ax L.length cx] ∧ Cel L d g Ax H1_0.size s.1 s.2 H' ∧ (∀ x ∈ L.take s.1, rnR x) ∧ Ext H H') (fun s => L.length - s.1) (0, c0) rfl ⟨rfl, rfl, rfl, rfl, trivial⟩ ⟨by omega, o0_0, o4_2, hg, (fun x hx => by cases hx), hE⟩ ?_
  rintro ⟨i, c⟩ H5 ⟨hi, o0_0, o4_2, hg, hR, hE⟩ ih
  dsimp only at hi hg hR ⊢
  have z_hE := hE.lt
  have z_o0_0 := o0_0.lt
  have z_o4_2 := o4_2.lt
  have z_hg := hg.lt
  refine At.region rfl rfl ?_
  refine Reg.pur rfl rfl rfl rfl (Pur.mv rfl) ?_
  refine Reg.pur rfl rfl rfl rfl (Pur.fld _ fo55_0 rfl) ?_
  refine Reg.lod rfl rfl rfl rfl (Lod.ld sc53 rfl o4_2.blk (by first | rfl | (simp; done))) ?_
  refine Reg.pur rfl rfl rfl rfl (Pur.lenS isl53 rfl) ?_
  refine Reg.pur rfl rfl rfl rfl (Pur.lss rfl rfl) ?_
  refine Reg.nil ?_
  refine At.cond rfl rfl (fun q24 => ?_) (fun q24 => ?_)
  · first | (simp only [decide_eq_true_eq, decide_eq_false_iff_not, Bool.not_eq_true', Bool.not_eq_false', ne_eq, Decidable.not_not, Bool.not_eq_true, Bool.not_eq_false] at q24) | (dsimp only at q24) | skip
    have hlt : i < L.length := by omega
    obtain ⟨hgB, rfl, hO, hcl, htk⟩ := hg.resolve_left (by omega)
    have hget := mdN_get hL hlt htk
    have hx9 := hL _ (List.getElem_mem hlt)
    have hstep := fun y (hy : y = rnN d L[i]) => mdN_step hL hlt htk hcl hy
    have hrr : ∀ x ∈ L.take (i + 1), x = L[i] ∨ rnR x := fun x hx => by rw [List.take_succ_eq_append_getElem hlt] at hx; rcases List.mem_append.1 hx with h | h; exact .inr (hR x h); exact .inl (by simpa using h)
    generalize hxi : L[i] = x at hget hx9 hstep hrr
    obtain ⟨x0, x1, x2, x3, x4, x5, x6, x7, x8, rfl⟩ := nine_form hx9
    have hgl := hO.lt
    clear hg
    have z_hE := hE.lt
    have z_o0_0 := o0_0.lt
    have z_o4_2 := o4_2.lt
    have z_hO := hO.lt
    refine At.region rfl rfl ?_
    refine Reg.pur rfl rfl rfl rfl (Pur.fld _ fo55_0 rfl) ?_
    refine Reg.lod rfl rfl rfl rfl (Lod.ld sc53 rfl o4_2.blk (by first | rfl | (simp; done))) ?_
    refine Reg.pur rfl rfl rfl rfl (Pur.mv rfl) ?_
    refine Reg.pur rfl rfl rfl rfl (Pur.idx _ es53 rfl rfl (by omega) (by omega)) ?_
    refine Reg.lod rfl rfl rfl rfl (Lod.ldn ag65 rfl hO.blk hget rfl) ?_
    refine Reg.op rfl rfl rfl rfl (Does.alloc zc65) ?_
    rintro _ H8_5 ⟨rfl, hn8_5⟩
    have z8_5 := hn8_5.size
    replace hE := hE.ext hn8_5.ext
    replace o0_0 := o0_0.ext hn8_5.ext
    replace o4_2 := o4_2.ext hn8_5.ext
    replace hO := hO.ext hn8_5.ext
    have o8_5 := hn8_5.own
    refine Reg.op0 rfl rfl rfl (Does.stn ag65 rfl rfl (by first | rfl | exact ones_Is _) (by first | rfl | (simp [*]; done)) o8_5 (by first | decide | (simp; done) | (simp; omega) | omega)) ?_
    rintro _ H8_6 hu8_6
    have z8_6 := hu8_6.size
    replace hE := hE.upw hu8_6 (by omega)
    replace o0_0 := o0_0.upw hu8_6 (by omega)
    replace o4_2 := o4_2.upw hu8_6 (by omega)
    replace hO := hO.upw hu8_6 (by omega)
    replace o8_5 := hu8_6.own
    first | rw [over (by first | rfl | (simp; done))] at o8_5 | skip
    refine Reg.nil ?_
    refine At.region rfl rfl ?_
    refine Reg.pur rfl rfl rfl rfl (Pur.fld _ fo65_1 rfl) ?_
    refine Reg.lod rfl rfl rfl rfl (Lod.ld sc3 rfl o8_5.blk (by first | rfl | (simp; done))) ?_
    refine Reg.pur rfl rfl rfl rfl (Pur.lss rfl rfl) ?_
    refine Reg.pur rfl rfl rfl rfl (Pur.mv rfl) ?_
    refine Reg.case 35 rfl (fun q35 => ?_) (fun q35 => ?_)
    · first | (simp only [decide_eq_true_eq, decide_eq_false_iff_not, Bool.not_eq_true', Bool.not_eq_false', ne_eq, Decidable.not_not, Bool.not_eq_true, Bool.not_eq_false] at q35) | (dsimp only at q35) | skip
      refine Reg.skip rfl rfl rfl rfl rfl rfl rfl ?_
      refine Reg.skip rfl rfl rfl rfl rfl rfl rfl ?_
      refine Reg.skip rfl rfl rfl rfl rfl rfl rfl ?_
      refine Reg.pur rfl rfl rfl rfl (Pur.pickT rfl rfl) ?_
      refine Reg.pur rfl rfl rfl rfl (Pur.mv rfl) ?_
      refine Reg.skip rfl rfl rfl rfl rfl rfl rfl ?_
      refine Reg.skip rfl rfl rfl rfl rfl rfl rfl ?_
      refine Reg.skip rfl rfl rfl rfl rfl rfl rfl ?_
      refine Reg.skip rfl rfl rfl rfl rfl rfl rfl ?_
      refine Reg.pur rfl rfl rfl rfl (Pur.pickT rfl rfl) ?_
      refine Reg.pur rfl rfl rfl rfl (Pur.mv rfl) ?_
      refine Reg.skip rfl rfl rfl rfl rfl rfl rfl ?_
      refine Reg.skip rfl rfl rfl rfl rfl rfl rfl ?_
      refine Reg.skip rfl rfl rfl rfl rfl rfl rfl ?_
      refine Reg.skip rfl rfl rfl rfl rfl rfl rfl ?_
      refine Reg.pur rfl rfl rfl rfl (Pur.pickT rfl rfl) ?_
      refine Reg.nil ?_
      refine At.condT rfl rfl rfl ?_
      refine At.region rfl rfl ?_
      refine Reg.pur rfl rfl rfl rfl (Pur.asg rfl) ?_
      refine Reg.nil ?_
      refine At.ret rfl Tryd.func14 rfl ?_
      exact ⟨rfl, hE⟩
    first | (simp only [decide_eq_true_eq, decide_eq_false_iff_not, Bool.not_eq_true', Bool.not_eq_false', ne_eq, Decidable.not_not, Bool.not_eq_true, Bool.not_eq_false] at q35) | (dsimp only at q35) | skip
    refine Reg.gpur rfl rfl rfl rfl rfl rfl (Pur.fld _ fo65_1 rfl) ?_
    refine Reg.glod rfl rfl rfl rfl rfl rfl (Lod.ld sc3 rfl o8_5.blk (by first | rfl | (simp; done))) ?_
    refine Reg.gpur rfl rfl rfl rfl rfl rfl (Pur.geq rfl rfl) ?_
    refine Reg.pur rfl rfl rfl rfl (Pur.pickF rfl rfl) ?_
    refine Reg.pur rfl rfl rfl rfl (Pur.mv rfl) ?_
    refine Reg.case 40 rfl (fun q40 => ?_) (fun q40 => ?_)
    · first | (simp only [decide_eq_true_eq, decide_eq_false_iff_not, Bool.not_eq_true', Bool.not_eq_false', ne_eq, Decidable.not_not, Bool.not_eq_true, Bool.not_eq_false] at q40) | (dsimp only at q40) | skip
      refine Reg.skip rfl rfl rfl rfl rfl rfl rfl ?_
      refine Reg.skip rfl rfl rfl rfl rfl rfl rfl ?_
      refine Reg.skip rfl rfl rfl rfl rfl rfl rfl ?_
      refine Reg.skip rfl rfl rfl rfl rfl rfl rfl ?_
      refine Reg.pur rfl rfl rfl rfl (Pur.pickT rfl rfl) ?_
      refine Reg.pur rfl rfl rfl rfl (Pur.mv rfl) ?_
      refine Reg.skip rfl rfl rfl rfl rfl rfl rfl ?_
      refine Reg.skip rfl rfl rfl rfl rfl rfl rfl ?_
      refine Reg.skip rfl rfl rfl rfl rfl rfl rfl ?_
      refine Reg.skip rfl rfl rfl rfl rfl rfl rfl ?_
      refine Reg.pur rfl rfl rfl rfl (Pur.pickT rfl rfl) ?_
      refine Reg.nil ?_
      refine At.condT rfl rfl rfl ?_
      refine At.region rfl rfl ?_
      refine Reg.pur rfl rfl rfl rfl (Pur.asg rfl) ?_
      refine Reg.nil ?_
      refine At.ret rfl Tryd.func14 rfl ?_
      exact ⟨rfl, hE⟩
    first | (simp only [decide_eq_true_eq, decide_eq_false_iff_not, Bool.not_eq_true', Bool.not_eq_false', ne_eq, Decidable.not_not, Bool.not_eq_true, Bool.not_eq_false] at q40) | (dsimp only at q40) | skip
    refine Reg.gpur rfl rfl rfl rfl rfl rfl (Pur.fld _ fo65_4 rfl) ?_
    refine Reg.gpur rfl rfl rfl rfl rfl rfl (Pur.fld _ fo24_1 rfl) ?_
    refine Reg.glod rfl rfl rfl rfl rfl rfl (Lod.ld sc3 rfl o8_5.blk (by first | rfl | (simp; done))) ?_
    refine Reg.gpur rfl rfl rfl rfl rfl rfl (Pur.lss rfl rfl) ?_
    refine Reg.pur rfl rfl rfl rfl (Pur.pickF rfl rfl) ?_
    refine Reg.pur rfl rfl rfl rfl (Pur.mv rfl) ?_
    refine Reg.case 46 rfl (fun q46 => ?_) (fun q46 => ?_)
    · first | (simp only [decide_eq_true_eq, decide_eq_false_iff_not, Bool.not_eq_true', Bool.not_eq_false', ne_eq, Decidable.not_not, Bool.not_eq_true, Bool.not_eq_false] at q46) | (dsimp only at q46) | skip
      refine Reg.skip rfl rfl rfl rfl rfl rfl rfl ?_
      refine Reg.skip rfl rfl rfl rfl rfl rfl rfl ?_
      refine Reg.skip rfl rfl rfl rfl rfl rfl rfl ?_
      refine Reg.skip rfl rfl rfl rfl rfl rfl rfl ?_
      refine Reg.pur rfl rfl rfl rfl (Pur.pickT rfl rfl) ?_
      refine Reg.nil ?_
      refine At.condT rfl rfl rfl ?_
      refine At.region rfl rfl ?_
      refine Reg.pur rfl rfl rfl rfl (Pur.asg rfl) ?_
      refine Reg.nil ?_
      refine At.ret rfl Tryd.func14 rfl ?_
      exact ⟨rfl, hE⟩
    first | (simp only [decide_eq_true_eq, decide_eq_false_iff_not, Bool.not_eq_true', Bool.not_eq_false', ne_eq, Decidable.not_not, Bool.not_eq_true, Bool.not_eq_false] at q46) | (dsimp only at q46) | skip
    refine Reg.gpur rfl rfl rfl rfl rfl rfl (Pur.fld _ fo65_4 rfl) ?_
    refine Reg.gpur rfl rfl rfl rfl rfl rfl (Pur.fld _ fo24_1 rfl) ?_
    refine Reg.glod rfl rfl rfl rfl rfl rfl (Lod.ld sc3 rfl o8_5.blk (by first | rfl | (simp; done))) ?_
    refine Reg.gpur rfl rfl rfl rfl rfl rfl (Pur.geq rfl rfl) ?_
    refine Reg.pur rfl rfl rfl rfl (Pur.pickF rfl rfl) ?_
    refine Reg.nil ?_
    refine At.cond rfl rfl (fun q51 => ?_) (fun q51 => ?_)
    · first | (simp only [decide_eq_true_eq, decide_eq_false_iff_not, Bool.not_eq_true', Bool.not_eq_false', ne_eq, Decidable.not_not, Bool.not_eq_true, Bool.not_eq_false] at q51) | (dsimp only at q51) | skip
      refine At.region rfl rfl ?_
      refine Reg.pur rfl rfl rfl rfl (Pur.asg rfl) ?_
      refine Reg.nil ?_
      refine At.ret rfl Tryd.func14 rfl ?_
      exact ⟨rfl, hE⟩
    first | (simp only [decide_eq_true_eq, decide_eq_false_iff_not, Bool.not_eq_true', Bool.not_eq_false', ne_eq, Decidable.not_not, Bool.not_eq_true, Bool.not_eq_false] at q51) | (dsimp only at q51) | skip
    refine At.region rfl rfl ?_
    refine Reg.pur rfl rfl rfl rfl (Pur.fld _ fo65_0 rfl) ?_
    refine Reg.lod rfl rfl rfl rfl (Lod.ld sc3 rfl o8_5.blk (by first | rfl | (simp; done))) ?_
    refine Reg.pur rfl rfl rfl rfl (Pur.eql rfl rfl) ?_
    refine Reg.nil ?_
    refine At.cond rfl rfl (fun q54 => ?_) (fun q54 => ?_)
    · first | (simp only [decide_eq_true_eq, decide_eq_false_iff_not, Bool.not_eq_true', Bool.not_eq_false', ne_eq, Decidable.not_not, Bool.not_eq_true, Bool.not_eq_false] at q54) | (dsimp only at q54) | skip
      refine At.region rfl rfl ?_
      refine Reg.pur rfl rfl rfl rfl (Pur.fld _ fo65_1 rfl) ?_
      refine Reg.lod rfl rfl rfl rfl (Lod.ld sc3 rfl o8_5.blk (by first | rfl | (simp; done))) ?_
      refine Reg.pur rfl rfl rfl rfl (Pur.mv rfl) ?_
      first | refine Reg.pur rfl rfl rfl rfl (Pur.add64 rfl rfl (by omega)) ?_ | refine Reg.pur rfl rfl rfl rfl (Pur.add64 rfl rfl (by assumption)) ?_ | refine Reg.pur rfl rfl rfl rfl (Pur.add rfl rfl) ?_
      refine Reg.pur rfl rfl rfl rfl (Pur.fld _ fo65_1 rfl) ?_
      refine Reg.op0 rfl rfl rfl (Does.st sc3 rfl rfl rfl o8_5 (by first | decide | (simp; done) | (simp; omega) | omega)) ?_
      rintro _ H12_5 hu12_5
      have z12_5 := hu12_5.size
      replace hE := hE.upw hu12_5 (by omega)
      replace o0_0 := o0_0.upw hu12_5 (by omega)
      replace o4_2 := o4_2.upw hu12_5 (by omega)
      replace hO := hO.upw hu12_5 (by omega)
      replace o8_5 := hu12_5.own
      refine Reg.nil ?_
      refine At.region rfl rfl ?_
      refine Reg.pur rfl rfl rfl rfl (Pur.fld _ fo65_0 rfl) ?_
      refine Reg.lod rfl rfl rfl rfl (Lod.ld sc3 rfl o8_5.blk (by first | rfl | (simp; done))) ?_
      refine Reg.pur rfl rfl rfl rfl (Pur.eql rfl rfl) ?_
      refine Reg.pur rfl rfl rfl rfl (Pur.mv rfl) ?_
      refine Reg.case 63 rfl (fun q63 => ?_) (fun q63 => ?_)
      · first | (simp only [decide_eq_true_eq, decide_eq_false_iff_not, Bool.not_eq_true', Bool.not_eq_false', ne_eq, Decidable.not_not, Bool.not_eq_true, Bool.not_eq_false] at q63) | (dsimp only at q63) | skip
        refine Reg.gpur rfl rfl rfl rfl rfl rfl (Pur.fld _ fo65_4 rfl) ?_
        refine Reg.gpur rfl rfl rfl rfl rfl rfl (Pur.fld _ fo24_1 rfl) ?_
        refine Reg.glod rfl rfl rfl rfl rfl rfl (Lod.ld sc3 rfl o8_5.blk (by first | rfl | (simp; done))) ?_
        refine Reg.gpur rfl rfl rfl rfl rfl rfl (Pur.geq rfl rfl) ?_
        refine Reg.pur rfl rfl rfl rfl (Pur.pickT rfl rfl) ?_
        refine Reg.nil ?_
        refine At.cond rfl rfl (fun q68 => ?_) (fun q68 => ?_)
        · first | (simp only [decide_eq_true_eq, decide_eq_false_iff_not, Bool.not_eq_true', Bool.not_eq_false', ne_eq, Decidable.not_not, Bool.not_eq_true, Bool.not_eq_false] at q68) | (dsimp only at q68) | skip
          refine At.region rfl rfl ?_
          refine Reg.pur rfl rfl rfl rfl (Pur.fld _ fo65_4 rfl) ?_
          refine Reg.pur rfl rfl rfl rfl (Pur.fld _ fo24_1 rfl) ?_
          refine Reg.lod rfl rfl rfl rfl (Lod.ld sc3 rfl o8_5.blk (by first | rfl | (simp; done))) ?_
          refine Reg.pur rfl rfl rfl rfl (Pur.mv rfl) ?_
          first | refine Reg.pur rfl rfl rfl rfl (Pur.add64 rfl rfl (by omega)) ?_ | refine Reg.pur rfl rfl rfl rfl (Pur.add64 rfl rfl (by assumption)) ?_ | refine Reg.pur rfl rfl rfl rfl (Pur.add rfl rfl) ?_
          refine Reg.pur rfl rfl rfl rfl (Pur.fld _ fo65_4 rfl) ?_
          refine Reg.pur rfl rfl rfl rfl (Pur.fld _ fo24_1 rfl) ?_
          refine Reg.op0 rfl rfl rfl (Does.st sc3 rfl rfl rfl o8_5 (by first | decide | (simp; done) | (simp; omega) | omega)) ?_
          rintro _ H14_7 hu14_7
          have z14_7 := hu14_7.size
          replace hE := hE.upw hu14_7 (by omega)
          replace o0_0 := o0_0.upw hu14_7 (by omega)
          replace o4_2 := o4_2.upw hu14_7 (by omega)
          replace hO := hO.upw hu14_7 (by omega)
          replace o8_5 := hu14_7.own
          refine Reg.nil ?_
          refine At.region rfl rfl ?_
          refine Reg.pur rfl rfl rfl rfl (Pur.fld _ fo55_0 rfl) ?_
          refine Reg.lod rfl rfl rfl rfl (Lod.ld sc53 rfl o4_2.blk (by first | rfl | (simp; done))) ?_
          refine Reg.pur rfl rfl rfl rfl (Pur.mv rfl) ?_
          refine Reg.lod rfl rfl rfl rfl (Lod.ldn ag65 rfl o8_5.blk (by first | exact whole rfl | rfl | (simp only [List.drop_succ_cons, List.drop_zero, List.take_succ_cons, List.take_zero]; rfl)) (by first | rfl | (simp [*]; done))) ?_
          refine Reg.pur rfl rfl rfl rfl (Pur.idx _ es53 rfl rfl (by omega) (by omega)) ?_
          refine Reg.op0 rfl rfl rfl (Does.stn ag65 rfl rfl (ones_Is _) rfl hO (by omega)) ?_
          rintro _ H15_5 hu15_5
          have z15_5 := hu15_5.size
          replace hE := hE.upw hu15_5 (by omega)
          replace o0_0 := o0_0.upw hu15_5 (by omega)
          replace o4_2 := o4_2.upw hu15_5 (by omega)
          replace o8_5 := o8_5.upw hu15_5 (by omega)
          replace hO := hu15_5.own
          first | rw [over (by first | rfl | (simp; done))] at hO | skip
          refine Reg.nil ?_
          refine At.region rfl rfl ?_
          refine Reg.pur rfl rfl rfl rfl (Pur.mv rfl) ?_
          first | refine Reg.pur rfl rfl rfl rfl (Pur.add64 rfl rfl (by omega)) ?_ | refine Reg.pur rfl rfl rfl rfl (Pur.add64 rfl rfl (by assumption)) ?_ | refine Reg.pur rfl rfl rfl rfl (Pur.add rfl rfl) ?_
          refine Reg.pur rfl rfl rfl rfl (Pur.asg rfl) ?_
          refine Reg.nil ?_
          have hR' : ∀ y ∈ L.take (i + 1), rnR y := fun y hy => by rcases hrr y hy with rfl | h; exact ⟨(by omega : 0 ≤ x1), (by omega : x1 < 4032), (by omega : -1 ≤ x8), (by omega : x8 < 4032)⟩; exact h
          first | (exfalso; omega) | (exact At.meets rfl (ih (i + 1, _) _ ⟨by (show i + 1 ≤ L.length); omega, o0_0, o4_2, .inr ⟨hgB, rfl, hO, (by simp only [List.length_append, List.length_take, List.length_drop, List.length_cons, List.length_nil, List.length_map, List.length_set]; omega), hstep [x0, x1 + d, x2, x3, x4, x5, x6, x7, x8] (rn_two (by omega))⟩, hR', hE⟩ (by simp only; omega)) ⟨rfl, rfl, rfl, rfl, trivial⟩) | (exact At.meets rfl (ih (i + 1, _) _ ⟨by (show i + 1 ≤ L.length); omega, o0_0, o4_2, .inr ⟨hgB, rfl, hO, (by simp only [List.length_append, List.length_take, List.length_drop, List.length_cons, List.length_nil, List.length_map, List.length_set]; omega), hstep [x0, x1, x2, x3, x4, x5, x6, x7, x8 + d] (rn_three (by omega) (by omega))⟩, hR', hE⟩ (by simp only; omega)) ⟨rfl, rfl, rfl, rfl, trivial⟩) | (exact At.meets rfl (ih (i + 1, _) _ ⟨by (show i + 1 ≤ L.length); omega, o0_0, o4_2, .inr ⟨hgB, rfl, hO, (by simp only [List.length_append, List.length_take, List.length_drop, List.length_cons, List.length_nil, List.length_map, List.length_set]; omega), hstep [x0, x1, x2, x3, x4, x5, x6, x7, x8] (rn_else (by omega) (by omega))⟩, hR', hE⟩ (by simp only; omega)) ⟨rfl, rfl, rfl, rfl, trivial⟩)
        first | (simp only [decide_eq_true_eq, decide_eq_false_iff_not, Bool.not_eq_true', Bool.not_eq_false', ne_eq, Decidable.not_not, Bool.not_eq_true, Bool.not_eq_false] at q68) | (dsimp only at q68) | skip
        refine At.region rfl rfl ?_
        refine Reg.pur rfl rfl rfl rfl (Pur.fld _ fo55_0 rfl) ?_
        refine Reg.lod rfl rfl rfl rfl (Lod.ld sc53 rfl o4_2.blk (by first | rfl | (simp; done))) ?_
        refine Reg.pur rfl rfl rfl rfl (Pur.mv rfl) ?_
        refine Reg.lod rfl rfl rfl rfl (Lod.ldn ag65 rfl o8_5.blk (by first | exact whole rfl | rfl | (simp only [List.drop_succ_cons, List.drop_zero, List.take_succ_cons, List.take_zero]; rfl)) (by first | rfl | (simp [*]; done))) ?_
        refine Reg.pur rfl rfl rfl rfl (Pur.idx _ es53 rfl rfl (by omega) (by omega)) ?_
        refine Reg.op0 rfl rfl rfl (Does.stn ag65 rfl rfl (ones_Is _) rfl hO (by omega)) ?_
        rintro _ H15_5 hu15_5
        have z15_5 := hu15_5.size
        replace hE := hE.upw hu15_5 (by omega)
        replace o0_0 := o0_0.upw hu15_5 (by omega)
        replace o4_2 := o4_2.upw hu15_5 (by omega)
        replace o8_5 := o8_5.upw hu15_5 (by omega)
        replace hO := hu15_5.own
        first | rw [over (by first | rfl | (simp; done))] at hO | skip
        refine Reg.nil ?_
        refine At.region rfl rfl ?_
        refine Reg.pur rfl rfl rfl rfl (Pur.mv rfl) ?_
        first | refine Reg.pur rfl rfl rfl rfl (Pur.add64 rfl rfl (by omega)) ?_ | refine Reg.pur rfl rfl rfl rfl (Pur.add64 rfl rfl (by assumption)) ?_ | refine Reg.pur rfl rfl rfl rfl (Pur.add rfl rfl) ?_
        refine Reg.pur rfl rfl rfl rfl (Pur.asg rfl) ?_
        refine Reg.nil ?_
        have hR' : ∀ y ∈ L.take (i + 1), rnR y := fun y hy => by rcases hrr y hy with rfl | h; exact ⟨(by omega : 0 ≤ x1), (by omega : x1 < 4032), (by omega : -1 ≤ x8), (by omega : x8 < 4032)⟩; exact h
        first | (exfalso; omega) | (exact At.meets rfl (ih (i + 1, _) _ ⟨by (show i + 1 ≤ L.length); omega, o0_0, o4_2, .inr ⟨hgB, rfl, hO, (by simp only [List.length_append, List.length_take, List.length_drop, List.length_cons, List.length_nil, List.length_map, List.length_set]; omega), hstep [x0, x1 + d, x2, x3, x4, x5, x6, x7, x8] (rn_two (by omega))⟩, hR', hE⟩ (by simp only; omega)) ⟨rfl, rfl, rfl, rfl, trivial⟩) | (exact At.meets rfl (ih (i + 1, _) _ ⟨by (show i + 1 ≤ L.length); omega, o0_0, o4_2, .inr ⟨hgB, rfl, hO, (by simp only [List.length_append, List.length_take, List.length_drop, List.length_cons, List.length_nil, List.length_map, List.length_set]; omega), hstep [x0, x1, x2, x3, x4, x5, x6, x7, x8 + d] (rn_three (by omega) (by omega))⟩, hR', hE⟩ (by simp only; omega)) ⟨rfl, rfl, rfl, rfl, trivial⟩) | (exact At.meets rfl (ih (i + 1, _) _ ⟨by (show i + 1 ≤ L.length); omega, o0_0, o4_2, .inr ⟨hgB, rfl, hO, (by simp only [List.length_append, List.length_take, List.length_drop, List.length_cons, List.length_nil, List.length_map, List.length_set]; omega), hstep [x0, x1, x2, x3, x4, x5, x6, x7, x8] (rn_else (by omega) (by omega))⟩, hR', hE⟩ (by simp only; omega)) ⟨rfl, rfl, rfl, rfl, trivial⟩)
      first | (simp only [decide_eq_true_eq, decide_eq_false_iff_not, Bool.not_eq_true', Bool.not_eq_false', ne_eq, Decidable.not_not, Bool.not_eq_true, Bool.not_eq_false] at q63) | (dsimp only at q63) | skip
      refine Reg.skip rfl rfl rfl rfl rfl rfl rfl ?_
      refine Reg.skip rfl rfl rfl rfl rfl rfl rfl ?_
      refine Reg.skip rfl rfl rfl rfl rfl rfl rfl ?_
      refine Reg.skip rfl rfl rfl rfl rfl rfl rfl ?_
      refine Reg.pur rfl rfl rfl rfl (Pur.pickF rfl rfl) ?_
      refine Reg.nil ?_
      refine At.condF rfl rfl rfl ?_
      refine At.region rfl rfl ?_
      refine Reg.pur rfl rfl rfl rfl (Pur.fld _ fo55_0 rfl) ?_
      refine Reg.lod rfl rfl rfl rfl (Lod.ld sc53 rfl o4_2.blk (by first | rfl | (simp; done))) ?_
      refine Reg.pur rfl rfl rfl rfl (Pur.mv rfl) ?_
      refine Reg.lod rfl rfl rfl rfl (Lod.ldn ag65 rfl o8_5.blk (by first | exact whole rfl | rfl | (simp only [List.drop_succ_cons, List.drop_zero, List.take_succ_cons, List.take_zero]; rfl)) (by first | rfl | (simp [*]; done))) ?_
      refine Reg.pur rfl rfl rfl rfl (Pur.idx _ es53 rfl rfl (by omega) (by omega)) ?_
      refine Reg.op0 rfl rfl rfl (Does.stn ag65 rfl rfl (ones_Is _) rfl hO (by omega)) ?_
      rintro _ H15_5 hu15_5
      have z15_5 := hu15_5.size
      replace hE := hE.upw hu15_5 (by omega)
      replace o0_0 := o0_0.upw hu15_5 (by omega)
      replace o4_2 := o4_2.upw hu15_5 (by omega)
      replace o8_5 := o8_5.upw hu15_5 (by omega)
      replace hO := hu15_5.own
      first | rw [over (by first | rfl | (simp; done))] at hO | skip
      refine Reg.nil ?_
      refine At.region rfl rfl ?_
      refine Reg.pur rfl rfl rfl rfl (Pur.mv rfl) ?_
      first | refine Reg.pur rfl rfl rfl rfl (Pur.add64 rfl rfl (by omega)) ?_ | refine Reg.pur rfl rfl rfl rfl (Pur.add64 rfl rfl (by assumption)) ?_ | refine Reg.pur rfl rfl rfl rfl (Pur.add rfl rfl) ?_
      refine Reg.pur rfl rfl rfl rfl (Pur.asg rfl) ?_
      refine Reg.nil ?_
      have hR' : ∀ y ∈ L.take (i + 1), rnR y := fun y hy => by rcases hrr y hy with rfl | h; exact ⟨(by omega : 0 ≤ x1), (by omega : x1 < 4032), (by omega : -1 ≤ x8), (by omega : x8 < 4032)⟩; exact h
      first | (exfalso; omega) | (exact At.meets rfl (ih (i + 1, _) _ ⟨by (show i + 1 ≤ L.length); omega, o0_0, o4_2, .inr ⟨hgB, rfl, hO, (by simp only [List.length_append, List.length_take, List.length_drop, List.length_cons, List.length_nil, List.length_map, List.length_set]; omega), hstep [x0, x1 + d, x2, x3, x4, x5, x6, x7, x8] (rn_two (by omega))⟩, hR', hE⟩ (by simp only; omega)) ⟨rfl, rfl, rfl, rfl, trivial⟩) | (exact At.meets rfl (ih (i + 1, _) _ ⟨by (show i + 1 ≤ L.length); omega, o0_0, o4_2, .inr ⟨hgB, rfl, hO, (by simp only [List.length_append, List.length_take, List.length_drop, List.length_cons, List.length_nil, List.length_map, List.length_set]; omega), hstep [x0, x1, x2, x3, x4, x5, x6, x7, x8 + d] (rn_three (by omega) (by omega))⟩, hR', hE⟩ (by simp only; omega)) ⟨rfl, rfl, rfl, rfl, trivial⟩) | (exact At.meets rfl (ih (i + 1, _) _ ⟨by (show i + 1 ≤ L.length); omega, o0_0, o4_2, .inr ⟨hgB, rfl, hO, (by simp only [List.length_append, List.length_take, List.length_drop, List.length_cons, List.length_nil, List.length_map, List.length_set]; omega), hstep [x0, x1, x2, x3, x4, x5, x6, x7, x8] (rn_else (by omega) (by omega))⟩, hR', hE⟩ (by simp only; omega)) ⟨rfl, rfl, rfl, rfl, trivial⟩)
    first | (simp only [decide_eq_true_eq, decide_eq_false_iff_not, Bool.not_eq_true', Bool.not_eq_false', ne_eq, Decidable.not_not, Bool.not_eq_true, Bool.not_eq_false] at q54) | (dsimp only at q54) | skip
    refine At.region rfl rfl ?_
    refine Reg.pur rfl rfl rfl rfl (Pur.fld _ fo65_0 rfl) ?_
    refine Reg.lod rfl rfl rfl rfl (Lod.ld sc3 rfl o8_5.blk (by first | rfl | (simp; done))) ?_
    refine Reg.pur rfl rfl rfl rfl (Pur.eql rfl rfl) ?_
    refine Reg.pur rfl rfl rfl rfl (Pur.mv rfl) ?_
    refine Reg.case 63 rfl (fun q63 => ?_) (fun q63 => ?_)
    · first | (simp only [decide_eq_true_eq, decide_eq_false_iff_not, Bool.not_eq_true', Bool.not_eq_false', ne_eq, Decidable.not_not, Bool.not_eq_true, Bool.not_eq_false] at q63) | (dsimp only at q63) | skip
      refine Reg.gpur rfl rfl rfl rfl rfl rfl (Pur.fld _ fo65_4 rfl) ?_
      refine Reg.gpur rfl rfl rfl rfl rfl rfl (Pur.fld _ fo24_1 rfl) ?_
      refine Reg.glod rfl rfl rfl rfl rfl rfl (Lod.ld sc3 rfl o8_5.blk (by first | rfl | (simp; done))) ?_
      refine Reg.gpur rfl rfl rfl rfl rfl rfl (Pur.geq rfl rfl) ?_
      refine Reg.pur rfl rfl rfl rfl (Pur.pickT rfl rfl) ?_
      refine Reg.nil ?_
      refine At.cond rfl rfl (fun q68 => ?_) (fun q68 => ?_)
      · first | (simp only [decide_eq_true_eq, decide_eq_false_iff_not, Bool.not_eq_true', Bool.not_eq_false', ne_eq, Decidable.not_not, Bool.not_eq_true, Bool.not_eq_false] at q68) | (dsimp only at q68) | skip
        refine At.region rfl rfl ?_
        refine Reg.pur rfl rfl rfl rfl (Pur.fld _ fo65_4 rfl) ?_
        refine Reg.pur rfl rfl rfl rfl (Pur.fld _ fo24_1 rfl) ?_
        refine Reg.lod rfl rfl rfl rfl (Lod.ld sc3 rfl o8_5.blk (by first | rfl | (simp; done))) ?_
        refine Reg.pur rfl rfl rfl rfl (Pur.mv rfl) ?_
        first | refine Reg.pur rfl rfl rfl rfl (Pur.add64 rfl rfl (by omega)) ?_ | refine Reg.pur rfl rfl rfl rfl (Pur.add64 rfl rfl (by assumption)) ?_ | refine Reg.pur rfl rfl rfl rfl (Pur.add rfl rfl) ?_
        refine Reg.pur rfl rfl rfl rfl (Pur.fld _ fo65_4 rfl) ?_
        refine Reg.pur rfl rfl rfl rfl (Pur.fld _ fo24_1 rfl) ?_
        refine Reg.op0 rfl rfl rfl (Does.st sc3 rfl rfl rfl o8_5 (by first | decide | (simp; done) | (simp; omega) | omega)) ?_
        rintro _ H14_7 hu14_7
        have z14_7 := hu14_7.size
        replace hE := hE.upw hu14_7 (by omega)
        replace o0_0 := o0_0.upw hu14_7 (by omega)
        replace o4_2 := o4_2.upw hu14_7 (by omega)
        replace hO := hO.upw hu14_7 (by omega)
        replace o8_5 := hu14_7.own
        refine Reg.nil ?_
        refine At.region rfl rfl ?_
        refine Reg.pur rfl rfl rfl rfl (Pur.fld _ fo55_0 rfl) ?_
        refine Reg.lod rfl rfl rfl rfl (Lod.ld sc53 rfl o4_2.blk (by first | rfl | (simp; done))) ?_
        refine Reg.pur rfl rfl rfl rfl (Pur.mv rfl) ?_
        refine Reg.lod rfl rfl rfl rfl (Lod.ldn ag65 rfl o8_5.blk (by first | exact whole rfl | rfl | (simp only [List.drop_succ_cons, List.drop_zero, List.take_succ_cons, List.take_zero]; rfl)) (by first | rfl | (simp [*]; done))) ?_
        refine Reg.pur rfl rfl rfl rfl (Pur.idx _ es53 rfl rfl (by omega) (by omega)) ?_
        refine Reg.op0 rfl rfl rfl (Does.stn ag65 rfl rfl (ones_Is _) rfl hO (by omega)) ?_
        rintro _ H15_5 hu15_5
        have z15_5 := hu15_5.size
        replace hE := hE.upw hu15_5 (by omega)
        replace o0_0 := o0_0.upw hu15_5 (by omega)
        replace o4_2 := o4_2.upw hu15_5 (by omega)
        replace o8_5 := o8_5.upw hu15_5 (by omega)
        replace hO := hu15_5.own
        first | rw [over (by first | rfl | (simp; done))] at hO | skip
        refine Reg.nil ?_
        refine At.region rfl rfl ?_
        refine Reg.pur rfl rfl rfl rfl (Pur.mv rfl) ?_
        first | refine Reg.pur rfl rfl rfl rfl (Pur.add64 rfl rfl (by omega)) ?_ | refine Reg.pur rfl rfl rfl rfl (Pur.add64 rfl rfl (by assumption)) ?_ | refine Reg.pur rfl rfl rfl rfl (Pur.add rfl rfl) ?_
        refine Reg.pur rfl rfl rfl rfl (Pur.asg rfl) ?_
        refine Reg.nil ?_
        have hR' : ∀ y ∈ L.take (i + 1), rnR y := fun y hy => by rcases hrr y hy with rfl | h; exact ⟨(by omega : 0 ≤ x1), (by omega : x1 < 4032), (by omega : -1 ≤ x8), (by omega : x8 < 4032)⟩; exact h
        first | (exfalso; omega) | (exact At.meets rfl (ih (i + 1, _) _ ⟨by (show i + 1 ≤ L.length); omega, o0_0, o4_2, .inr ⟨hgB, rfl, hO, (by simp only [List.length_append, List.length_take, List.length_drop, List.length_cons, List.length_nil, List.length_map, List.length_set]; omega), hstep [x0, x1 + d, x2, x3, x4, x5, x6, x7, x8] (rn_two (by omega))⟩, hR', hE⟩ (by simp only; omega)) ⟨rfl, rfl, rfl, rfl, trivial⟩) | (exact At.meets rfl (ih (i + 1, _) _ ⟨by (show i + 1 ≤ L.length); omega, o0_0, o4_2, .inr ⟨hgB, rfl, hO, (by simp only [List.length_append, List.length_take, List.length_drop, List.length_cons, List.length_nil, List.length_map, List.length_set]; omega), hstep [x0, x1, x2, x3, x4, x5, x6, x7, x8 + d] (rn_three (by omega) (by omega))⟩, hR', hE⟩ (by simp only; omega)) ⟨rfl, rfl, rfl, rfl, trivial⟩) | (exact At.meets rfl (ih (i + 1, _) _ ⟨by (show i + 1 ≤ L.length); omega, o0_0, o4_2, .inr ⟨hgB, rfl, hO, (by simp only [List.length_append, List.length_take, List.length_drop, List.length_cons, List.length_nil, List.length_map, List.length_set]; omega), hstep [x0, x1, x2, x3, x4, x5, x6, x7, x8] (rn_else (by omega) (by omega))⟩, hR', hE⟩ (by simp only; omega)) ⟨rfl, rfl, rfl, rfl, trivial⟩)
      first | (simp only [decide_eq_true_eq, decide_eq_false_iff_not, Bool.not_eq_true', Bool.not_eq_false', ne_eq, Decidable.not_not, Bool.not_eq_true, Bool.not_eq_false] at q68) | (dsimp only at q68) | skip
      refine At.region rfl rfl ?_
      refine Reg.pur rfl rfl rfl rfl (Pur.fld _ fo55_0 rfl) ?_
      refine Reg.lod rfl rfl rfl rfl (Lod.ld sc53 rfl o4_2.blk (by first | rfl | (simp; done))) ?_
      refine Reg.pur rfl rfl rfl rfl (Pur.mv rfl) ?_
      refine Reg.lod rfl rfl rfl rfl (Lod.ldn ag65 rfl o8_5.blk (by first | exact whole rfl | rfl | (simp only [List.drop_succ_cons, List.drop_zero, List.take_succ_cons, List.take_zero]; rfl)) (by first | rfl | (simp [*]; done))) ?_
      refine Reg.pur rfl rfl rfl rfl (Pur.idx _ es53 rfl rfl (by omega) (by omega)) ?_
      refine Reg.op0 rfl rfl rfl (Does.stn ag65 rfl rfl (ones_Is _) rfl hO (by omega)) ?_
      rintro _ H15_5 hu15_5
      have z15_5 := hu15_5.size
      replace hE := hE.upw hu15_5 (by omega)
      replace o0_0 := o0_0.upw hu15_5 (by omega)
      replace o4_2 := o4_2.upw hu15_5 (by omega)
      replace o8_5 := o8_5.upw hu15_5 (by omega)
      replace hO := hu15_5.own
      first | rw [over (by first | rfl | (simp; done))] at hO | skip
      refine Reg.nil ?_
      refine At.region rfl rfl ?_
      refine Reg.pur rfl rfl rfl rfl (Pur.mv rfl) ?_
      first | refine Reg.pur rfl rfl rfl rfl (Pur.add64 rfl rfl (by omega)) ?_ | refine Reg.pur rfl rfl rfl rfl (Pur.add64 rfl rfl (by assumption)) ?_ | refine Reg.pur rfl rfl rfl rfl (Pur.add rfl rfl) ?_
      refine Reg.pur rfl rfl rfl rfl (Pur.asg rfl) ?_
      refine Reg.nil ?_
      have hR' : ∀ y ∈ L.take (i + 1), rnR y := fun y hy => by rcases hrr y hy with rfl | h; exact ⟨(by omega : 0 ≤ x1), (by omega : x1 < 4032), (by omega : -1 ≤ x8), (by omega : x8 < 4032)⟩; exact h
      first | (exfalso; omega) | (exact At.meets rfl (ih (i + 1, _) _ ⟨by (show i + 1 ≤ L.length); omega, o0_0, o4_2, .inr ⟨hgB, rfl, hO, (by simp only [List.length_append, List.length_take, List.length_drop, List.length_cons, List.length_nil, List.length_map, List.length_set]; omega), hstep [x0, x1 + d, x2, x3, x4, x5, x6, x7, x8] (rn_two (by omega))⟩, hR', hE⟩ (by simp only; omega)) ⟨rfl, rfl, rfl, rfl, trivial⟩) | (exact At.meets rfl (ih (i + 1, _) _ ⟨by (show i + 1 ≤ L.length); omega, o0_0, o4_2, .inr ⟨hgB, rfl, hO, (by simp only [List.length_append, List.length_take, List.length_drop, List.length_cons, List.length_nil, List.length_map, List.length_set]; omega), hstep [x0, x1, x2, x3, x4, x5, x6, x7, x8 + d] (rn_three (by omega) (by omega))⟩, hR', hE⟩ (by simp only; omega)) ⟨rfl, rfl, rfl, rfl, trivial⟩) | (exact At.meets rfl (ih (i + 1, _) _ ⟨by (show i + 1 ≤ L.length); omega, o0_0, o4_2, .inr ⟨hgB, rfl, hO, (by simp only [List.length_append, List.length_take, List.length_drop, List.length_cons, List.length_nil, List.length_map, List.length_set]; omega), hstep [x0, x1, x2, x3, x4, x5, x6, x7, x8] (rn_else (by omega) (by omega))⟩, hR', hE⟩ (by simp only; omega)) ⟨rfl, rfl, rfl, rfl, trivial⟩)
    first | (simp only [decide_eq_true_eq, decide_eq_false_iff_not, Bool.not_eq_true', Bool.not_eq_false', ne_eq, Decidable.not_not, Bool.not_eq_true, Bool.not_eq_false] at q63) | (dsimp only at q63) | skip
    refine Reg.skip rfl rfl rfl rfl rfl rfl rfl ?_
    refine Reg.skip rfl rfl rfl rfl rfl rfl rfl ?_
    refine Reg.skip rfl rfl rfl rfl rfl rfl rfl ?_
    refine Reg.skip rfl rfl rfl rfl rfl rfl rfl ?_
    refine Reg.pur rfl rfl rfl rfl (Pur.pickF rfl rfl) ?_
    refine Reg.nil ?_
    refine At.condF rfl rfl rfl ?_
    refine At.region rfl rfl ?_
    refine Reg.pur rfl rfl rfl rfl (Pur.fld _ fo55_0 rfl) ?_
    refine Reg.lod rfl rfl rfl rfl (Lod.ld sc53 rfl o4_2.blk (by first | rfl | (simp; done))) ?_
    refine Reg.pur rfl rfl rfl rfl (Pur.mv rfl) ?_
    refine Reg.lod rfl rfl rfl rfl (Lod.ldn ag65 rfl o8_5.blk (by first | exact whole rfl | rfl | (simp only [List.drop_succ_cons, List.drop_zero, List.take_succ_cons, List.take_zero]; rfl)) (by first | rfl | (simp [*]; done))) ?_
    refine Reg.pur rfl rfl rfl rfl (Pur.idx _ es53 rfl rfl (by omega) (by omega)) ?_
    refine Reg.op0 rfl rfl rfl (Does.stn ag65 rfl rfl (ones_Is _) rfl hO (by omega)) ?_
    rintro _ H15_5 hu15_5
    have z15_5 := hu15_5.size
    replace hE := hE.upw hu15_5 (by omega)
    replace o0_0 := o0_0.upw hu15_5 (by omega)
    replace o4_2 := o4_2.upw hu15_5 (by omega)
    replace o8_5 := o8_5.upw hu15_5 (by omega)
    replace hO := hu15_5.own
    first | rw [over (by first | rfl | (simp; done))] at hO | skip
    refine Reg.nil ?_
    refine At.region rfl rfl ?_
    refine Reg.pur rfl rfl rfl rfl (Pur.mv rfl) ?_
    first | refine Reg.pur rfl rfl rfl rfl (Pur.add64 rfl rfl (by omega)) ?_ | refine Reg.pur rfl rfl rfl rfl (Pur.add64 rfl rfl (by assumption)) ?_ | refine Reg.pur rfl rfl rfl rfl (Pur.add rfl rfl) ?_
    refine Reg.pur rfl rfl rfl rfl (Pur.asg rfl) ?_
    refine Reg.nil ?_
    have hR' : ∀ y ∈ L.take (i + 1), rnR y := fun y hy => by rcases hrr y hy with rfl | h; exact ⟨(by omega : 0 ≤ x1), (by omega : x1 < 4032), (by omega : -1 ≤ x8), (by omega : x8 < 4032)⟩; exact h
    first | (exfalso; omega) | (exact At.meets rfl (ih (i + 1, _) _ ⟨by (show i + 1 ≤ L.length); omega, o0_0, o4_2, .inr ⟨hgB, rfl, hO, (by simp only [List.length_append, List.length_take, List.length_drop, List.length_cons, List.length_nil, List.length_map, List.length_set]; omega), hstep [x0, x1 + d, x2, x3, x4, x5, x6, x7, x8] (rn_two (by omega))⟩, hR', hE⟩ (by simp only; omega)) ⟨rfl, rfl, rfl, rfl, trivial⟩) | (exact At.meets rfl (ih (i + 1, _) _ ⟨by (show i + 1 ≤ L.length); omega, o0_0, o4_2, .inr ⟨hgB, rfl, hO, (by simp only [List.length_append, List.length_take, List.length_drop, List.length_cons, List.length_nil, List.length_map, List.length_set]; omega), hstep [x0, x1, x2, x3, x4, x5, x6, x7, x8 + d] (rn_three (by omega) (by omega))⟩, hR', hE⟩ (by simp only; omega)) ⟨rfl, rfl, rfl, rfl, trivial⟩) | (exact At.meets rfl (ih (i + 1, _) _ ⟨by (show i + 1 ≤ L.length); omega, o0_0, o4_2, .inr ⟨hgB, rfl, hO, (by simp only [List.length_append, List.length_take, List.length_drop, List.length_cons, List.length_nil, List.length_map, List.length_set]; omega), hstep [x0, x1, x2, x3, x4, x5, x6, x7, x8] (rn_else (by omega) (by omega))⟩, hR', hE⟩ (by simp only; omega)) ⟨rfl, rfl, rfl, rfl, trivial⟩)
  first | (simp only [decide_eq_true_eq, decide_eq_false_iff_not, Bool.not_eq_true', Bool.not_eq_false', ne_eq, Decidable.not_not, Bool.not_eq_true, Bool.not_eq_false] at q24) | (dsimp only at q24) | skip
  obtain rfl : i = L.length := by omega
  have hS2 : SlT H5 Is 9 (.slice Ax (L.map (rnN d)).length cx) (L.map (rnN d)) := cel_sl hL hg hc1 hc2 hc3
  rw [List.take_of_length_le (Nat.le_refl _)] at hR
  have htx := rn_text hd3.1 hd3.2 hL hR
  clear hg
  have z_hE := hE.lt
  have z_o0_0 := o0_0.lt
  have z_o4_2 := o4_2.lt
  have z_hS2 := hS2.lt
  refine At.region rfl rfl ?_
  refine Reg.lod rfl rfl rfl rfl (Lod.ldn ag55 rfl o0_0.blk (whole rfl) rfl) ?_
  refine Reg.op rfl rfl rfl rfl (Does.call rfl (typText_ok hL (hT.ext hE) (hS.ext hE) (by omega))) ?_
  rintro _ H16_1 ⟨rfl, hE16_1⟩
  have z16_1 := hE16_1.lt
  replace hE := hE.ext hE16_1
  replace o0_0 := o0_0.ext hE16_1
  replace o4_2 := o4_2.ext hE16_1
  replace hS2 := hS2.ext hE16_1
  refine Reg.pur rfl rfl rfl rfl (Pur.mv rfl) ?_
  refine Reg.pur rfl rfl rfl rfl (Pur.ext rfl rfl) ?_
  refine Reg.pur rfl rfl rfl rfl (Pur.ext rfl rfl) ?_
  refine Reg.pur rfl rfl rfl rfl (Pur.asg rfl) ?_
  refine Reg.pur rfl rfl rfl rfl (Pur.asg rfl) ?_
  refine Reg.nil ?_
  refine At.region rfl rfl ?_
  refine Reg.lod rfl rfl rfl rfl (Lod.ldn ag55 rfl o4_2.blk (whole rfl) rfl) ?_
  refine Reg.op rfl rfl rfl rfl (Does.call rfl (typText_len (rnN_nine hL) (hT.ext hE) hS2 (by rw [List.length_map]; omega) (by rw [List.length_map]))) ?_
  rintro _ H17_1 ⟨rfl, hE17_1⟩
  have z17_1 := hE17_1.lt
  replace hE := hE.ext hE17_1
  replace o0_0 := o0_0.ext hE17_1
  replace o4_2 := o4_2.ext hE17_1
  replace hS2 := hS2.ext hE17_1
  rw [htx]
  refine Reg.pur rfl rfl rfl rfl (Pur.mv rfl) ?_
  refine Reg.pur rfl rfl rfl rfl (Pur.ext rfl rfl) ?_
  refine Reg.pur rfl rfl rfl rfl (Pur.ext rfl rfl) ?_
  refine Reg.pur rfl rfl rfl rfl (Pur.asg rfl) ?_
  refine Reg.pur rfl rfl rfl rfl (Pur.asg rfl) ?_
  refine Reg.nil ?_
  refine At.region rfl rfl ?_
  refine Reg.pur rfl rfl rfl rfl (Pur.mv rfl) ?_
  refine Reg.pur rfl rfl rfl rfl (Pur.mv rfl) ?_
  refine Reg.pur rfl rfl rfl rfl (Pur.eqS rfl rfl) ?_
  refine Reg.pur rfl rfl rfl rfl (Pur.mv rfl) ?_
  refine Reg.known (b' := true) 94 rfl (by simp) ?_
  refine Reg.gpur rfl rfl rfl rfl rfl rfl (Pur.mv rfl) ?_
  refine Reg.gop rfl rfl rfl rfl rfl rfl (Does.call rfl (numE_ok _ _)) ?_
  rintro _ H17_1 ⟨rfl, rfl⟩
  refine Reg.gpur rfl rfl rfl rfl rfl rfl (Pur.mv rfl) ?_
  refine Reg.gop rfl rfl rfl rfl rfl rfl (Does.call rfl (numE_ok _ _)) ?_
  rintro _ H17_1 ⟨rfl, rfl⟩
  refine Reg.gpur rfl rfl rfl rfl rfl rfl (Pur.eql rfl rfl) ?_
  refine Reg.pur rfl rfl rfl rfl (Pur.pickT rfl rfl) ?_
  refine Reg.pur rfl rfl rfl rfl (Pur.asg rfl) ?_
  refine Reg.nil ?_
  refine At.ret rfl Tryd.func14 rfl ?_
  exact ⟨by simp, hE⟩
end Go.Proofs.YtlfillhffpiffaaDoor

