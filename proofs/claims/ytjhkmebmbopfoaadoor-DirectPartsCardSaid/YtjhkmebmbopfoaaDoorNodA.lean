/-
  Nodes: their children's and names' fields.
-/
import Derived.Test.YtjhkmebmbopfoaaDoorRev
import Derived.Test.YtjhkmebmbopfoaaDoorLexC
namespace Go.Proofs.YtjhkmebmbopfoaaDoor
set_option linter.unusedSimpArgs false
set_option linter.unusedVariables false
set_option maxRecDepth 8000
set_option maxHeartbeats 1000000
open Go Go.Fx Go.Proofs
namespace FactsNodA
theorem fo35_0 : foff Tryd.prog 35 0 = some 0 := by kernel_rfl
theorem fo35_1 : foff Tryd.prog 35 1 = some 1 := by kernel_rfl
theorem fo35_2 : foff Tryd.prog 35 2 = some 2 := by kernel_rfl
theorem fo35_3 : foff Tryd.prog 35 3 = some 3 := by kernel_rfl
theorem fo35_5 : foff Tryd.prog 35 5 = some 5 := by kernel_rfl
theorem fo35_6 : foff Tryd.prog 35 6 = some 6 := by kernel_rfl
theorem fo35_7 : foff Tryd.prog 35 7 = some 7 := by kernel_rfl
theorem fo35_8 : foff Tryd.prog 35 8 = some 8 := by kernel_rfl
theorem mixed : Tryd.prog.follows .mixedOrders = true := by kernel_rfl
theorem sc3 : sc Tryd.prog 3 = true := by kernel_rfl
theorem sl1_129 : Go.Fx.sl1 Tryd.prog 129 = true := by kernel_rfl
theorem sl1_79 : Go.Fx.sl1 Tryd.prog 79 = true := by kernel_rfl
end FactsNodA
open FactsNodA

/-- a node -/
structure Nd where
  k : Int
  a : Int
  b : Int
  c : Int
  num : Int
  nm : BS
  x : BS
  y : BS
  z : BS
  p : Int
deriving DecidableEq
/-- its cells -/
def eN (n : Nd) : List Value := [I n.k, I n.a, I n.b, I n.c, I n.num, S n.nm, S n.x, S n.y, S n.z, I n.p]
theorem eN_len (n : Nd) : (eN n).length = 10 := rfl
theorem ones_eN (n : Nd) : ones (eN n) = true := rfl
def nkOffs (k : Int) : List Nat :=
  if k = 3 ∨ k = 9 then [1] else if k = 4 ∨ k = 5 ∨ k = 6 ∨ k = 8 then [1, 2] else if k = 7 ∨ k = 10 then [1, 2, 3] else []
def nnOffs (k : Int) : List Nat :=
  if k = 0 ∨ k = 9 then [5] else if k = 3 ∨ k = 5 then [6] else if k = 6 then [6, 7] else if k = 10 then [5, 6, 7, 8] else []
def nMost (k : Int) : Int := if k = 1 then 1073741823 else if k = 2 then 1 else if k = 8 then 5 else -1
theorem nkids_ok {b o : Nat} {k : Int} {c : List Value} {H : Heap} (hb : Blk H b c) (hk : c[o]? = some (I k)) :
    Ret Tryd.prog 38 [ptr b o] H (fun v H' => PtrS H H' v b ((nkOffs k).map (o + ·))) := by
  refine Ret.of_at (N := 39) Tryd.call38 Tryd.func38 rfl rfl rfl ?_
  refine At.region rfl rfl ?_
  refine Reg.pur rfl rfl rfl rfl (Pur.asg rfl) ?_
  refine Reg.nil ?_
  refine At.region rfl rfl ?_
  refine Reg.pur rfl rfl rfl rfl (Pur.mv rfl) ?_
  refine Reg.pur rfl rfl rfl rfl (Pur.nilc rfl) ?_
  refine Reg.pur rfl rfl rfl rfl (Pur.fld _ fo35_0 rfl) ?_
  refine Reg.lod rfl rfl rfl rfl (Lod.ld sc3 rfl hb hk) ?_
  refine Reg.nil ?_
  refine At.region rfl rfl ?_
  refine Reg.pur rfl rfl rfl rfl (Pur.eql rfl rfl) ?_
  refine Reg.pur rfl rfl rfl rfl (Pur.asg rfl) ?_
  refine Reg.nil ?_
  refine At.cond rfl rfl (fun hb1 => ?_) (fun hb1 => ?_)
  · refine At.condT rfl rfl (by first | exact hb1 | exact decide_eq_true hb1 | exact decide_eq_false hb1 | simpa using hb1) ?_
    refine At.region rfl rfl ?_
    refine Reg.pur rfl rfl rfl rfl (Pur.mv rfl) ?_
    refine Reg.pur rfl rfl rfl rfl (Pur.nilc rfl) ?_
    refine Reg.pur rfl rfl rfl rfl (Pur.fld _ fo35_1 rfl) ?_
    refine Reg.op rfl rfl rfl rfl (Does.bsl1 sl1_79 rfl rfl rfl rfl rfl) ?_
    rintro _ H1 ⟨rfl, hn1⟩
    refine Reg.pur rfl rfl rfl rfl (Pur.asg rfl) ?_
    refine Reg.nil ?_
    refine At.ret rfl Tryd.func38 rfl ?_
    simp only [decide_eq_true_eq, decide_eq_false_iff_not] at *
    first | exact ptrS_new hn1 (by simp [nkOffs, *]) (by simp [nkOffs, *]) | exact ptrS_nil (by simp [nkOffs, *])
  refine At.region rfl rfl ?_
  refine Reg.pur rfl rfl rfl rfl (Pur.eql rfl rfl) ?_
  refine Reg.pur rfl rfl rfl rfl (Pur.asg rfl) ?_
  refine Reg.nil ?_
  refine At.cond rfl rfl (fun hb2 => ?_) (fun hb2 => ?_)
  · refine At.region rfl rfl ?_
    refine Reg.pur rfl rfl rfl rfl (Pur.mv rfl) ?_
    refine Reg.pur rfl rfl rfl rfl (Pur.nilc rfl) ?_
    refine Reg.pur rfl rfl rfl rfl (Pur.fld _ fo35_1 rfl) ?_
    refine Reg.op rfl rfl rfl rfl (Does.bsl1 sl1_79 rfl rfl rfl rfl rfl) ?_
    rintro _ H1 ⟨rfl, hn1⟩
    refine Reg.pur rfl rfl rfl rfl (Pur.asg rfl) ?_
    refine Reg.nil ?_
    refine At.ret rfl Tryd.func38 rfl ?_
    simp only [decide_eq_true_eq, decide_eq_false_iff_not] at *
    first | exact ptrS_new hn1 (by simp [nkOffs, *]) (by simp [nkOffs, *]) | exact ptrS_nil (by simp [nkOffs, *])
  refine At.region rfl rfl ?_
  refine Reg.pur rfl rfl rfl rfl (Pur.eql rfl rfl) ?_
  refine Reg.pur rfl rfl rfl rfl (Pur.asg rfl) ?_
  refine Reg.nil ?_
  refine At.cond rfl rfl (fun hb3 => ?_) (fun hb3 => ?_)
  · refine At.condT rfl rfl (by first | exact hb3 | exact decide_eq_true hb3 | exact decide_eq_false hb3 | simpa using hb3) ?_
    refine At.draw (fun _ => True) [] mixed rfl rfl ?_
    refine RegD.tpur (i := 0) rfl rfl rfl rfl (by kernel_rfl) (Pur.mv rfl) ?_
    refine RegD.tpur (i := 1) rfl rfl rfl rfl (by kernel_rfl) (Pur.nilc rfl) ?_
    refine RegD.tpur (i := 2) rfl rfl rfl rfl (by kernel_rfl) (Pur.fld _ fo35_1 rfl) ?_
    refine RegD.tpur (i := 3) rfl rfl rfl rfl (by kernel_rfl) (Pur.mv rfl) ?_
    refine RegD.tpur (i := 4) rfl rfl rfl rfl (by kernel_rfl) (Pur.nilc rfl) ?_
    refine RegD.tpur (i := 5) rfl rfl rfl rfl (by kernel_rfl) (Pur.fld _ fo35_2 rfl) ?_
    refine RegD.one (i := 6) (by kernel_rfl) rfl rfl rfl rfl (Does.bsl1 sl1_79 rfl rfl rfl rfl rfl) ?_
    rintro _ H1 ⟨rfl, hn1⟩
    refine ⟨fun _ _ => trivial, ?_⟩
    refine RegD.tpur (i := 7) rfl rfl rfl rfl (by kernel_rfl) (Pur.asg rfl) ?_
    refine RegD.done (by kernel_rfl) ?_
    refine At.ret rfl Tryd.func38 rfl ?_
    simp only [decide_eq_true_eq, decide_eq_false_iff_not] at *
    first | exact ptrS_new hn1 (by simp [nkOffs, *]) (by simp [nkOffs, *]) | exact ptrS_nil (by simp [nkOffs, *])
  refine At.region rfl rfl ?_
  refine Reg.pur rfl rfl rfl rfl (Pur.eql rfl rfl) ?_
  refine Reg.pur rfl rfl rfl rfl (Pur.asg rfl) ?_
  refine Reg.nil ?_
  refine At.cond rfl rfl (fun hb4 => ?_) (fun hb4 => ?_)
  · refine At.condT rfl rfl (by first | exact hb4 | exact decide_eq_true hb4 | exact decide_eq_false hb4 | simpa using hb4) ?_
    refine At.draw (fun _ => True) [] mixed rfl rfl ?_
    refine RegD.tpur (i := 0) rfl rfl rfl rfl (by kernel_rfl) (Pur.mv rfl) ?_
    refine RegD.tpur (i := 1) rfl rfl rfl rfl (by kernel_rfl) (Pur.nilc rfl) ?_
    refine RegD.tpur (i := 2) rfl rfl rfl rfl (by kernel_rfl) (Pur.fld _ fo35_1 rfl) ?_
    refine RegD.tpur (i := 3) rfl rfl rfl rfl (by kernel_rfl) (Pur.mv rfl) ?_
    refine RegD.tpur (i := 4) rfl rfl rfl rfl (by kernel_rfl) (Pur.nilc rfl) ?_
    refine RegD.tpur (i := 5) rfl rfl rfl rfl (by kernel_rfl) (Pur.fld _ fo35_2 rfl) ?_
    refine RegD.one (i := 6) (by kernel_rfl) rfl rfl rfl rfl (Does.bsl1 sl1_79 rfl rfl rfl rfl rfl) ?_
    rintro _ H1 ⟨rfl, hn1⟩
    refine ⟨fun _ _ => trivial, ?_⟩
    refine RegD.tpur (i := 7) rfl rfl rfl rfl (by kernel_rfl) (Pur.asg rfl) ?_
    refine RegD.done (by kernel_rfl) ?_
    refine At.ret rfl Tryd.func38 rfl ?_
    simp only [decide_eq_true_eq, decide_eq_false_iff_not] at *
    first | exact ptrS_new hn1 (by simp [nkOffs, *]) (by simp [nkOffs, *]) | exact ptrS_nil (by simp [nkOffs, *])
  refine At.region rfl rfl ?_
  refine Reg.pur rfl rfl rfl rfl (Pur.eql rfl rfl) ?_
  refine Reg.pur rfl rfl rfl rfl (Pur.asg rfl) ?_
  refine Reg.nil ?_
  refine At.cond rfl rfl (fun hb5 => ?_) (fun hb5 => ?_)
  · refine At.condT rfl rfl (by first | exact hb5 | exact decide_eq_true hb5 | exact decide_eq_false hb5 | simpa using hb5) ?_
    refine At.draw (fun _ => True) [] mixed rfl rfl ?_
    refine RegD.tpur (i := 0) rfl rfl rfl rfl (by kernel_rfl) (Pur.mv rfl) ?_
    refine RegD.tpur (i := 1) rfl rfl rfl rfl (by kernel_rfl) (Pur.nilc rfl) ?_
    refine RegD.tpur (i := 2) rfl rfl rfl rfl (by kernel_rfl) (Pur.fld _ fo35_1 rfl) ?_
    refine RegD.tpur (i := 3) rfl rfl rfl rfl (by kernel_rfl) (Pur.mv rfl) ?_
    refine RegD.tpur (i := 4) rfl rfl rfl rfl (by kernel_rfl) (Pur.nilc rfl) ?_
    refine RegD.tpur (i := 5) rfl rfl rfl rfl (by kernel_rfl) (Pur.fld _ fo35_2 rfl) ?_
    refine RegD.one (i := 6) (by kernel_rfl) rfl rfl rfl rfl (Does.bsl1 sl1_79 rfl rfl rfl rfl rfl) ?_
    rintro _ H1 ⟨rfl, hn1⟩
    refine ⟨fun _ _ => trivial, ?_⟩
    refine RegD.tpur (i := 7) rfl rfl rfl rfl (by kernel_rfl) (Pur.asg rfl) ?_
    refine RegD.done (by kernel_rfl) ?_
    refine At.ret rfl Tryd.func38 rfl ?_
    simp only [decide_eq_true_eq, decide_eq_false_iff_not] at *
    first | exact ptrS_new hn1 (by simp [nkOffs, *]) (by simp [nkOffs, *]) | exact ptrS_nil (by simp [nkOffs, *])
  refine At.region rfl rfl ?_
  refine Reg.pur rfl rfl rfl rfl (Pur.eql rfl rfl) ?_
  refine Reg.pur rfl rfl rfl rfl (Pur.asg rfl) ?_
  refine Reg.nil ?_
  refine At.cond rfl rfl (fun hb6 => ?_) (fun hb6 => ?_)
  · refine At.draw (fun _ => True) [] mixed rfl rfl ?_
    refine RegD.tpur (i := 0) rfl rfl rfl rfl (by kernel_rfl) (Pur.mv rfl) ?_
    refine RegD.tpur (i := 1) rfl rfl rfl rfl (by kernel_rfl) (Pur.nilc rfl) ?_
    refine RegD.tpur (i := 2) rfl rfl rfl rfl (by kernel_rfl) (Pur.fld _ fo35_1 rfl) ?_
    refine RegD.tpur (i := 3) rfl rfl rfl rfl (by kernel_rfl) (Pur.mv rfl) ?_
    refine RegD.tpur (i := 4) rfl rfl rfl rfl (by kernel_rfl) (Pur.nilc rfl) ?_
    refine RegD.tpur (i := 5) rfl rfl rfl rfl (by kernel_rfl) (Pur.fld _ fo35_2 rfl) ?_
    refine RegD.one (i := 6) (by kernel_rfl) rfl rfl rfl rfl (Does.bsl1 sl1_79 rfl rfl rfl rfl rfl) ?_
    rintro _ H1 ⟨rfl, hn1⟩
    refine ⟨fun _ _ => trivial, ?_⟩
    refine RegD.tpur (i := 7) rfl rfl rfl rfl (by kernel_rfl) (Pur.asg rfl) ?_
    refine RegD.done (by kernel_rfl) ?_
    refine At.ret rfl Tryd.func38 rfl ?_
    simp only [decide_eq_true_eq, decide_eq_false_iff_not] at *
    first | exact ptrS_new hn1 (by simp [nkOffs, *]) (by simp [nkOffs, *]) | exact ptrS_nil (by simp [nkOffs, *])
  refine At.region rfl rfl ?_
  refine Reg.pur rfl rfl rfl rfl (Pur.eql rfl rfl) ?_
  refine Reg.pur rfl rfl rfl rfl (Pur.asg rfl) ?_
  refine Reg.nil ?_
  refine At.cond rfl rfl (fun hb7 => ?_) (fun hb7 => ?_)
  · refine At.condT rfl rfl (by first | exact hb7 | exact decide_eq_true hb7 | exact decide_eq_false hb7 | simpa using hb7) ?_
    refine At.draw (fun _ => True) [] mixed rfl rfl ?_
    refine RegD.tpur (i := 0) rfl rfl rfl rfl (by kernel_rfl) (Pur.mv rfl) ?_
    refine RegD.tpur (i := 1) rfl rfl rfl rfl (by kernel_rfl) (Pur.nilc rfl) ?_
    refine RegD.tpur (i := 2) rfl rfl rfl rfl (by kernel_rfl) (Pur.fld _ fo35_1 rfl) ?_
    refine RegD.tpur (i := 3) rfl rfl rfl rfl (by kernel_rfl) (Pur.mv rfl) ?_
    refine RegD.tpur (i := 4) rfl rfl rfl rfl (by kernel_rfl) (Pur.nilc rfl) ?_
    refine RegD.tpur (i := 5) rfl rfl rfl rfl (by kernel_rfl) (Pur.fld _ fo35_2 rfl) ?_
    refine RegD.tpur (i := 6) rfl rfl rfl rfl (by kernel_rfl) (Pur.mv rfl) ?_
    refine RegD.tpur (i := 7) rfl rfl rfl rfl (by kernel_rfl) (Pur.nilc rfl) ?_
    refine RegD.tpur (i := 8) rfl rfl rfl rfl (by kernel_rfl) (Pur.fld _ fo35_3 rfl) ?_
    refine RegD.one (i := 9) (by kernel_rfl) rfl rfl rfl rfl (Does.bsl1 sl1_79 rfl rfl rfl rfl rfl) ?_
    rintro _ H1 ⟨rfl, hn1⟩
    refine ⟨fun _ _ => trivial, ?_⟩
    refine RegD.tpur (i := 10) rfl rfl rfl rfl (by kernel_rfl) (Pur.asg rfl) ?_
    refine RegD.done (by kernel_rfl) ?_
    refine At.ret rfl Tryd.func38 rfl ?_
    simp only [decide_eq_true_eq, decide_eq_false_iff_not] at *
    first | exact ptrS_new hn1 (by simp [nkOffs, *]) (by simp [nkOffs, *]) | exact ptrS_nil (by simp [nkOffs, *])
  refine At.region rfl rfl ?_
  refine Reg.pur rfl rfl rfl rfl (Pur.eql rfl rfl) ?_
  refine Reg.pur rfl rfl rfl rfl (Pur.asg rfl) ?_
  refine Reg.nil ?_
  refine At.cond rfl rfl (fun hb8 => ?_) (fun hb8 => ?_)
  · refine At.draw (fun _ => True) [] mixed rfl rfl ?_
    refine RegD.tpur (i := 0) rfl rfl rfl rfl (by kernel_rfl) (Pur.mv rfl) ?_
    refine RegD.tpur (i := 1) rfl rfl rfl rfl (by kernel_rfl) (Pur.nilc rfl) ?_
    refine RegD.tpur (i := 2) rfl rfl rfl rfl (by kernel_rfl) (Pur.fld _ fo35_1 rfl) ?_
    refine RegD.tpur (i := 3) rfl rfl rfl rfl (by kernel_rfl) (Pur.mv rfl) ?_
    refine RegD.tpur (i := 4) rfl rfl rfl rfl (by kernel_rfl) (Pur.nilc rfl) ?_
    refine RegD.tpur (i := 5) rfl rfl rfl rfl (by kernel_rfl) (Pur.fld _ fo35_2 rfl) ?_
    refine RegD.tpur (i := 6) rfl rfl rfl rfl (by kernel_rfl) (Pur.mv rfl) ?_
    refine RegD.tpur (i := 7) rfl rfl rfl rfl (by kernel_rfl) (Pur.nilc rfl) ?_
    refine RegD.tpur (i := 8) rfl rfl rfl rfl (by kernel_rfl) (Pur.fld _ fo35_3 rfl) ?_
    refine RegD.one (i := 9) (by kernel_rfl) rfl rfl rfl rfl (Does.bsl1 sl1_79 rfl rfl rfl rfl rfl) ?_
    rintro _ H1 ⟨rfl, hn1⟩
    refine ⟨fun _ _ => trivial, ?_⟩
    refine RegD.tpur (i := 10) rfl rfl rfl rfl (by kernel_rfl) (Pur.asg rfl) ?_
    refine RegD.done (by kernel_rfl) ?_
    refine At.ret rfl Tryd.func38 rfl ?_
    simp only [decide_eq_true_eq, decide_eq_false_iff_not] at *
    first | exact ptrS_new hn1 (by simp [nkOffs, *]) (by simp [nkOffs, *]) | exact ptrS_nil (by simp [nkOffs, *])
  refine At.region rfl rfl ?_
  refine Reg.pur rfl rfl rfl rfl (Pur.asg rfl) ?_
  refine Reg.nil ?_
  refine At.ret rfl Tryd.func38 rfl ?_
  simp only [decide_eq_true_eq, decide_eq_false_iff_not] at *
  first | exact ptrS_new hn1 (by simp [nkOffs, *]) (by simp [nkOffs, *]) | exact ptrS_nil (by simp [nkOffs, *])
theorem nnames_ok {b o : Nat} {k : Int} {c : List Value} {H : Heap} (hb : Blk H b c) (hk : c[o]? = some (I k)) :
    Ret Tryd.prog 93 [ptr b o] H (fun v H' => PtrS H H' v b ((nnOffs k).map (o + ·))) := by
  refine Ret.of_at (N := 45) Tryd.call93 Tryd.func93 rfl rfl rfl ?_
  refine At.region rfl rfl ?_
  refine Reg.pur rfl rfl rfl rfl (Pur.asg rfl) ?_
  refine Reg.nil ?_
  refine At.region rfl rfl ?_
  refine Reg.pur rfl rfl rfl rfl (Pur.mv rfl) ?_
  refine Reg.pur rfl rfl rfl rfl (Pur.nilc rfl) ?_
  refine Reg.pur rfl rfl rfl rfl (Pur.fld _ fo35_0 rfl) ?_
  refine Reg.lod rfl rfl rfl rfl (Lod.ld sc3 rfl hb hk) ?_
  refine Reg.nil ?_
  refine At.region rfl rfl ?_
  refine Reg.pur rfl rfl rfl rfl (Pur.eql rfl rfl) ?_
  refine Reg.pur rfl rfl rfl rfl (Pur.asg rfl) ?_
  refine Reg.nil ?_
  refine At.cond rfl rfl (fun hb1 => ?_) (fun hb1 => ?_)
  · refine At.condT rfl rfl (by first | exact hb1 | exact decide_eq_true hb1 | exact decide_eq_false hb1 | simpa using hb1) ?_
    refine At.region rfl rfl ?_
    refine Reg.pur rfl rfl rfl rfl (Pur.mv rfl) ?_
    refine Reg.pur rfl rfl rfl rfl (Pur.nilc rfl) ?_
    refine Reg.pur rfl rfl rfl rfl (Pur.fld _ fo35_5 rfl) ?_
    refine Reg.op rfl rfl rfl rfl (Does.bsl1 sl1_129 rfl rfl rfl rfl rfl) ?_
    rintro _ H1 ⟨rfl, hn1⟩
    refine Reg.pur rfl rfl rfl rfl (Pur.asg rfl) ?_
    refine Reg.nil ?_
    refine At.ret rfl Tryd.func93 rfl ?_
    simp only [decide_eq_true_eq, decide_eq_false_iff_not] at *
    first | exact ptrS_new hn1 (by simp [nnOffs, *]) (by simp [nnOffs, *]) | exact ptrS_nil (by simp [nnOffs, *])
  refine At.region rfl rfl ?_
  refine Reg.pur rfl rfl rfl rfl (Pur.eql rfl rfl) ?_
  refine Reg.pur rfl rfl rfl rfl (Pur.asg rfl) ?_
  refine Reg.nil ?_
  refine At.cond rfl rfl (fun hb2 => ?_) (fun hb2 => ?_)
  · refine At.region rfl rfl ?_
    refine Reg.pur rfl rfl rfl rfl (Pur.mv rfl) ?_
    refine Reg.pur rfl rfl rfl rfl (Pur.nilc rfl) ?_
    refine Reg.pur rfl rfl rfl rfl (Pur.fld _ fo35_5 rfl) ?_
    refine Reg.op rfl rfl rfl rfl (Does.bsl1 sl1_129 rfl rfl rfl rfl rfl) ?_
    rintro _ H1 ⟨rfl, hn1⟩
    refine Reg.pur rfl rfl rfl rfl (Pur.asg rfl) ?_
    refine Reg.nil ?_
    refine At.ret rfl Tryd.func93 rfl ?_
    simp only [decide_eq_true_eq, decide_eq_false_iff_not] at *
    first | exact ptrS_new hn1 (by simp [nnOffs, *]) (by simp [nnOffs, *]) | exact ptrS_nil (by simp [nnOffs, *])
  refine At.region rfl rfl ?_
  refine Reg.pur rfl rfl rfl rfl (Pur.eql rfl rfl) ?_
  refine Reg.pur rfl rfl rfl rfl (Pur.asg rfl) ?_
  refine Reg.nil ?_
  refine At.cond rfl rfl (fun hb3 => ?_) (fun hb3 => ?_)
  · refine At.condT rfl rfl (by first | exact hb3 | exact decide_eq_true hb3 | exact decide_eq_false hb3 | simpa using hb3) ?_
    refine At.region rfl rfl ?_
    refine Reg.pur rfl rfl rfl rfl (Pur.mv rfl) ?_
    refine Reg.pur rfl rfl rfl rfl (Pur.nilc rfl) ?_
    refine Reg.pur rfl rfl rfl rfl (Pur.fld _ fo35_6 rfl) ?_
    refine Reg.op rfl rfl rfl rfl (Does.bsl1 sl1_129 rfl rfl rfl rfl rfl) ?_
    rintro _ H1 ⟨rfl, hn1⟩
    refine Reg.pur rfl rfl rfl rfl (Pur.asg rfl) ?_
    refine Reg.nil ?_
    refine At.ret rfl Tryd.func93 rfl ?_
    simp only [decide_eq_true_eq, decide_eq_false_iff_not] at *
    first | exact ptrS_new hn1 (by simp [nnOffs, *]) (by simp [nnOffs, *]) | exact ptrS_nil (by simp [nnOffs, *])
  refine At.region rfl rfl ?_
  refine Reg.pur rfl rfl rfl rfl (Pur.eql rfl rfl) ?_
  refine Reg.pur rfl rfl rfl rfl (Pur.asg rfl) ?_
  refine Reg.nil ?_
  refine At.cond rfl rfl (fun hb4 => ?_) (fun hb4 => ?_)
  · refine At.region rfl rfl ?_
    refine Reg.pur rfl rfl rfl rfl (Pur.mv rfl) ?_
    refine Reg.pur rfl rfl rfl rfl (Pur.nilc rfl) ?_
    refine Reg.pur rfl rfl rfl rfl (Pur.fld _ fo35_6 rfl) ?_
    refine Reg.op rfl rfl rfl rfl (Does.bsl1 sl1_129 rfl rfl rfl rfl rfl) ?_
    rintro _ H1 ⟨rfl, hn1⟩
    refine Reg.pur rfl rfl rfl rfl (Pur.asg rfl) ?_
    refine Reg.nil ?_
    refine At.ret rfl Tryd.func93 rfl ?_
    simp only [decide_eq_true_eq, decide_eq_false_iff_not] at *
    first | exact ptrS_new hn1 (by simp [nnOffs, *]) (by simp [nnOffs, *]) | exact ptrS_nil (by simp [nnOffs, *])
  refine At.region rfl rfl ?_
  refine Reg.pur rfl rfl rfl rfl (Pur.eql rfl rfl) ?_
  refine Reg.pur rfl rfl rfl rfl (Pur.asg rfl) ?_
  refine Reg.nil ?_
  refine At.cond rfl rfl (fun hb5 => ?_) (fun hb5 => ?_)
  · refine At.draw (fun _ => True) [] mixed rfl rfl ?_
    refine RegD.tpur (i := 0) rfl rfl rfl rfl (by kernel_rfl) (Pur.mv rfl) ?_
    refine RegD.tpur (i := 1) rfl rfl rfl rfl (by kernel_rfl) (Pur.nilc rfl) ?_
    refine RegD.tpur (i := 2) rfl rfl rfl rfl (by kernel_rfl) (Pur.fld _ fo35_6 rfl) ?_
    refine RegD.tpur (i := 3) rfl rfl rfl rfl (by kernel_rfl) (Pur.mv rfl) ?_
    refine RegD.tpur (i := 4) rfl rfl rfl rfl (by kernel_rfl) (Pur.nilc rfl) ?_
    refine RegD.tpur (i := 5) rfl rfl rfl rfl (by kernel_rfl) (Pur.fld _ fo35_7 rfl) ?_
    refine RegD.one (i := 6) (by kernel_rfl) rfl rfl rfl rfl (Does.bsl1 sl1_129 rfl rfl rfl rfl rfl) ?_
    rintro _ H1 ⟨rfl, hn1⟩
    refine ⟨fun _ _ => trivial, ?_⟩
    refine RegD.tpur (i := 7) rfl rfl rfl rfl (by kernel_rfl) (Pur.asg rfl) ?_
    refine RegD.done (by kernel_rfl) ?_
    refine At.ret rfl Tryd.func93 rfl ?_
    simp only [decide_eq_true_eq, decide_eq_false_iff_not] at *
    first | exact ptrS_new hn1 (by simp [nnOffs, *]) (by simp [nnOffs, *]) | exact ptrS_nil (by simp [nnOffs, *])
  refine At.region rfl rfl ?_
  refine Reg.pur rfl rfl rfl rfl (Pur.eql rfl rfl) ?_
  refine Reg.pur rfl rfl rfl rfl (Pur.asg rfl) ?_
  refine Reg.nil ?_
  refine At.cond rfl rfl (fun hb6 => ?_) (fun hb6 => ?_)
  · refine At.draw (fun _ => True) [] mixed rfl rfl ?_
    refine RegD.tpur (i := 0) rfl rfl rfl rfl (by kernel_rfl) (Pur.mv rfl) ?_
    refine RegD.tpur (i := 1) rfl rfl rfl rfl (by kernel_rfl) (Pur.nilc rfl) ?_
    refine RegD.tpur (i := 2) rfl rfl rfl rfl (by kernel_rfl) (Pur.fld _ fo35_5 rfl) ?_
    refine RegD.tpur (i := 3) rfl rfl rfl rfl (by kernel_rfl) (Pur.mv rfl) ?_
    refine RegD.tpur (i := 4) rfl rfl rfl rfl (by kernel_rfl) (Pur.nilc rfl) ?_
    refine RegD.tpur (i := 5) rfl rfl rfl rfl (by kernel_rfl) (Pur.fld _ fo35_6 rfl) ?_
    refine RegD.tpur (i := 6) rfl rfl rfl rfl (by kernel_rfl) (Pur.mv rfl) ?_
    refine RegD.tpur (i := 7) rfl rfl rfl rfl (by kernel_rfl) (Pur.nilc rfl) ?_
    refine RegD.tpur (i := 8) rfl rfl rfl rfl (by kernel_rfl) (Pur.fld _ fo35_7 rfl) ?_
    refine RegD.tpur (i := 9) rfl rfl rfl rfl (by kernel_rfl) (Pur.mv rfl) ?_
    refine RegD.tpur (i := 10) rfl rfl rfl rfl (by kernel_rfl) (Pur.nilc rfl) ?_
    refine RegD.tpur (i := 11) rfl rfl rfl rfl (by kernel_rfl) (Pur.fld _ fo35_8 rfl) ?_
    refine RegD.one (i := 12) (by kernel_rfl) rfl rfl rfl rfl (Does.bsl1 sl1_129 rfl rfl rfl rfl rfl) ?_
    rintro _ H1 ⟨rfl, hn1⟩
    refine ⟨fun _ _ => trivial, ?_⟩
    refine RegD.tpur (i := 13) rfl rfl rfl rfl (by kernel_rfl) (Pur.asg rfl) ?_
    refine RegD.done (by kernel_rfl) ?_
    refine At.ret rfl Tryd.func93 rfl ?_
    simp only [decide_eq_true_eq, decide_eq_false_iff_not] at *
    first | exact ptrS_new hn1 (by simp [nnOffs, *]) (by simp [nnOffs, *]) | exact ptrS_nil (by simp [nnOffs, *])
  refine At.region rfl rfl ?_
  refine Reg.pur rfl rfl rfl rfl (Pur.asg rfl) ?_
  refine Reg.nil ?_
  refine At.ret rfl Tryd.func93 rfl ?_
  simp only [decide_eq_true_eq, decide_eq_false_iff_not] at *
  first | exact ptrS_new hn1 (by simp [nnOffs, *]) (by simp [nnOffs, *]) | exact ptrS_nil (by simp [nnOffs, *])
theorem nmost_ok (k : Int) (H : Heap) : Ret Tryd.prog 92 [I k] H (fun v H' => v = I (nMost k) ∧ H' = H) := by
  refine Ret.of_at (N := 10) Tryd.call92 Tryd.func92 rfl rfl rfl ?_
  refine At.region rfl rfl ?_
  refine Reg.pur rfl rfl rfl rfl (Pur.asg rfl) ?_
  refine Reg.nil ?_
  refine At.region rfl rfl ?_
  refine Reg.pur rfl rfl rfl rfl (Pur.mv rfl) ?_
  refine Reg.nil ?_
  refine At.region rfl rfl ?_
  refine Reg.pur rfl rfl rfl rfl (Pur.eql rfl rfl) ?_
  refine Reg.pur rfl rfl rfl rfl (Pur.asg rfl) ?_
  refine Reg.nil ?_
  refine At.cond rfl rfl (fun hb1 => ?_) (fun hb1 => ?_)
  · refine At.region rfl rfl ?_
    refine Reg.pur rfl rfl rfl rfl (Pur.asg rfl) ?_
    refine Reg.nil ?_
    refine At.ret rfl Tryd.func92 rfl ?_
    refine And.intro ?_ rfl
    simp only [decide_eq_true_eq, decide_eq_false_iff_not] at *
    simp [nMost, *]
  refine At.region rfl rfl ?_
  refine Reg.pur rfl rfl rfl rfl (Pur.eql rfl rfl) ?_
  refine Reg.pur rfl rfl rfl rfl (Pur.asg rfl) ?_
  refine Reg.nil ?_
  refine At.cond rfl rfl (fun hb2 => ?_) (fun hb2 => ?_)
  · refine At.region rfl rfl ?_
    refine Reg.pur rfl rfl rfl rfl (Pur.asg rfl) ?_
    refine Reg.nil ?_
    refine At.ret rfl Tryd.func92 rfl ?_
    refine And.intro ?_ rfl
    simp only [decide_eq_true_eq, decide_eq_false_iff_not] at *
    simp [nMost, *]
  refine At.region rfl rfl ?_
  refine Reg.pur rfl rfl rfl rfl (Pur.eql rfl rfl) ?_
  refine Reg.pur rfl rfl rfl rfl (Pur.asg rfl) ?_
  refine Reg.nil ?_
  refine At.cond rfl rfl (fun hb3 => ?_) (fun hb3 => ?_)
  · refine At.region rfl rfl ?_
    refine Reg.pur rfl rfl rfl rfl (Pur.asg rfl) ?_
    refine Reg.nil ?_
    refine At.ret rfl Tryd.func92 rfl ?_
    refine And.intro ?_ rfl
    simp only [decide_eq_true_eq, decide_eq_false_iff_not] at *
    simp [nMost, *]
  refine At.region rfl rfl ?_
  refine Reg.pur rfl rfl rfl rfl (Pur.asg rfl) ?_
  refine Reg.nil ?_
  refine At.ret rfl Tryd.func92 rfl ?_
  refine And.intro ?_ rfl
  simp only [decide_eq_true_eq, decide_eq_false_iff_not] at *
  simp [nMost, *]
def nNum (k : Int) : Bool := decide (k = 0 ∨ k = 9 ∨ k = 10)
theorem numbered_ok (k : Int) (H : Heap) : Ret Tryd.prog 67 [I k] H (fun v H' => v = .bool (nNum k) ∧ H' = H) := by
  refine Ret.of_at (N := 13) Tryd.call67 Tryd.func67 rfl rfl rfl ?_
  refine At.region rfl rfl ?_
  refine Reg.pur rfl rfl rfl rfl (Pur.asg rfl) ?_
  refine Reg.nil ?_
  refine At.region rfl rfl ?_
  refine Reg.pur rfl rfl rfl rfl (Pur.mv rfl) ?_
  refine Reg.pur rfl rfl rfl rfl (Pur.eql rfl rfl) ?_
  refine Reg.pur rfl rfl rfl rfl (Pur.mv rfl) ?_
  refine Reg.case 5 rfl (fun hc1 => ?_) (fun hc1 => ?_)
  · refine Reg.skip rfl rfl rfl rfl rfl rfl rfl ?_
    refine Reg.skip rfl rfl rfl rfl rfl rfl rfl ?_
    refine Reg.pur rfl rfl rfl rfl (Pur.pickT rfl rfl) ?_
    refine Reg.pur rfl rfl rfl rfl (Pur.mv rfl) ?_
    refine Reg.skip rfl rfl rfl rfl rfl rfl rfl ?_
    refine Reg.skip rfl rfl rfl rfl rfl rfl rfl ?_
    refine Reg.pur rfl rfl rfl rfl (Pur.pickT rfl rfl) ?_
    refine Reg.pur rfl rfl rfl rfl (Pur.asg rfl) ?_
    refine Reg.nil ?_
    refine At.ret rfl Tryd.func67 rfl ?_
    refine And.intro ?_ rfl
    simp only [decide_eq_true_eq, decide_eq_false_iff_not] at *
    simp [nNum, *]
  refine Reg.gpur rfl rfl rfl rfl rfl rfl (Pur.mv rfl) ?_
  refine Reg.gpur rfl rfl rfl rfl rfl rfl (Pur.eql rfl rfl) ?_
  refine Reg.pur rfl rfl rfl rfl (Pur.pickF rfl rfl) ?_
  refine Reg.pur rfl rfl rfl rfl (Pur.mv rfl) ?_
  refine Reg.case 9 rfl (fun hc2 => ?_) (fun hc2 => ?_)
  · refine Reg.skip rfl rfl rfl rfl rfl rfl rfl ?_
    refine Reg.skip rfl rfl rfl rfl rfl rfl rfl ?_
    refine Reg.pur rfl rfl rfl rfl (Pur.pickT rfl rfl) ?_
    refine Reg.pur rfl rfl rfl rfl (Pur.asg rfl) ?_
    refine Reg.nil ?_
    refine At.ret rfl Tryd.func67 rfl ?_
    refine And.intro ?_ rfl
    simp only [decide_eq_true_eq, decide_eq_false_iff_not] at *
    simp [nNum, *]
  refine Reg.gpur rfl rfl rfl rfl rfl rfl (Pur.mv rfl) ?_
  refine Reg.gpur rfl rfl rfl rfl rfl rfl (Pur.eql rfl rfl) ?_
  refine Reg.pur rfl rfl rfl rfl (Pur.pickF rfl rfl) ?_
  refine Reg.pur rfl rfl rfl rfl (Pur.asg rfl) ?_
  refine Reg.nil ?_
  refine At.ret rfl Tryd.func67 rfl ?_
  refine And.intro ?_ rfl
  simp only [decide_eq_true_eq, decide_eq_false_iff_not] at *
  simp [nNum, *]
end Go.Proofs.YtjhkmebmbopfoaaDoor
