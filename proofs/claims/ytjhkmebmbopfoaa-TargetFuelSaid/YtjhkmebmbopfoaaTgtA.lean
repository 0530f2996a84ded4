/-
  Package target, its small functions: kids, names, most.
-/
import Derived.Test.YtjhkmebmbopfoaaFxC
import Derived.Test.YtjhkmebmbopfoaaProg
namespace Go.Proofs.Ytjhkmebmbopfoaa
set_option linter.unusedSimpArgs false
set_option linter.unusedVariables false
set_option maxRecDepth 8000
open Go Go.Fx Go.Proofs
namespace FactsTgtA
theorem fo37_0 : foff Try.prog 37 0 = some 0 := by kernel_rfl
theorem fo37_1 : foff Try.prog 37 1 = some 1 := by kernel_rfl
theorem fo37_2 : foff Try.prog 37 2 = some 2 := by kernel_rfl
theorem fo37_3 : foff Try.prog 37 3 = some 3 := by kernel_rfl
theorem fo37_4 : foff Try.prog 37 4 = some 4 := by kernel_rfl
theorem fo37_5 : foff Try.prog 37 5 = some 5 := by kernel_rfl
theorem fo37_6 : foff Try.prog 37 6 = some 6 := by kernel_rfl
theorem fo37_7 : foff Try.prog 37 7 = some 7 := by kernel_rfl
theorem fo37_8 : foff Try.prog 37 8 = some 8 := by kernel_rfl
theorem mixed : Try.prog.follows .mixedOrders = true := by kernel_rfl
theorem sc3 : sc Try.prog 3 = true := by kernel_rfl
theorem sl1_80 : Go.Fx.sl1 Try.prog 80 = true := by kernel_rfl
end FactsTgtA
open FactsTgtA

abbrev I (n : Int) : Value := .int .i64 n
abbrev ptr (b o : Nat) : Value := .pointer (some ⟨b, o, none⟩)

/-- what v, over H', is: a slice of the addresses of these cells of block b, in a new block or nil -/
def PtrS (H H' : Heap) (v : Value) (b : Nat) (os : List Nat) : Prop :=
  Ext H H' ∧ ∃ A, v = .slice A os.length os.length ∧ (os.length = 0 ∨ ∃ B, H.size ≤ B ∧ A = some ⟨B, 0, none⟩ ∧ Own H' B (os.map (ptr b)))

def kidOffs (k : Int) : List Nat :=
  if k = 3 ∨ k = 4 ∨ k = 9 then [1] else if k = 5 ∨ k = 6 ∨ k = 8 ∨ k = 10 ∨ k = 11 then [1, 2] else if k = 7 ∨ k = 12 then [1, 2, 3] else []

theorem ptrS_nil {H : Heap} {b : Nat} {os : List Nat} (h : os = []) : PtrS H H (.slice none 0 0) b os := by
  subst h; exact ⟨Ext.refl _, none, rfl, .inl rfl⟩
theorem ptrS_new {H H' : Heap} {b n : Nat} {os : List Nat} {c : List Value} (hn : New H H' c) (h : os.map (ptr b) = c) (hl : os.length = n) : PtrS H H' (.slice (some ⟨H.size, 0, none⟩) n n) b os := by
  subst h; subst hl
  exact ⟨hn.ext, _, rfl, .inr ⟨_, Nat.le_refl _, rfl, hn.own⟩⟩

theorem kids_ok {b o : Nat} {k : Int} {c : List Value} {H : Heap} (hb : Blk H b c) (hk : c[o]? = some (I k)) :
    Ret Try.prog 39 [ptr b o] H (fun v H' => PtrS H H' v b ((kidOffs k).map (o + ·))) := by
  refine Ret.of_at (N := 41) Try.call39 Try.func39 rfl rfl rfl ?_
  refine At.region rfl rfl ?_
  refine Reg.pur rfl rfl rfl rfl (Pur.asg rfl) ?_
  refine Reg.nil ?_
  refine At.region rfl rfl ?_
  refine Reg.pur rfl rfl rfl rfl (Pur.mv rfl) ?_
  refine Reg.pur rfl rfl rfl rfl (Pur.nilc rfl) ?_
  refine Reg.pur rfl rfl rfl rfl (Pur.fld _ fo37_0 rfl) ?_
  refine Reg.lod rfl rfl rfl rfl (Lod.ld sc3 rfl hb hk) ?_
  refine Reg.nil ?_
  refine At.region rfl rfl ?_
  refine Reg.pur rfl rfl rfl rfl (Pur.eql rfl rfl) ?_
  refine Reg.pur rfl rfl rfl rfl (Pur.asg rfl) ?_
  refine Reg.nil ?_
  refine At.cond rfl rfl (fun hb1 => ?_) (fun hb1 => ?_)
  · refine At.condT rfl rfl (by first | exact hb1 | exact decide_eq_true hb1 | exact decide_eq_false hb1 | simpa using hb1) ?_
    refine At.region rfl rfl ?_
    refine Reg.pur rfl rfl rfl rfl (Pur.mv rfl) ?_
    refine Reg.pur rfl rfl rfl rfl (Pur.nilc rfl) ?_
    refine Reg.pur rfl rfl rfl rfl (Pur.fld _ fo37_1 rfl) ?_
    refine Reg.op rfl rfl rfl rfl (Does.bsl1 sl1_80 rfl rfl rfl rfl rfl) ?_
    rintro _ H1 ⟨rfl, hn1⟩
    refine Reg.pur rfl rfl rfl rfl (Pur.asg rfl) ?_
    refine Reg.nil ?_
    refine At.ret rfl Try.func39 rfl ?_
    simp only [decide_eq_true_eq, decide_eq_false_iff_not] at *
    first | exact ptrS_new hn1 (by simp [kidOffs, *]) (by simp [kidOffs, *]) | exact ptrS_nil (by simp [kidOffs, *])
  refine At.region rfl rfl ?_
  refine Reg.pur rfl rfl rfl rfl (Pur.eql rfl rfl) ?_
  refine Reg.pur rfl rfl rfl rfl (Pur.asg rfl) ?_
  refine Reg.nil ?_
  refine At.cond rfl rfl (fun hb2 => ?_) (fun hb2 => ?_)
  · refine At.condT rfl rfl (by first | exact hb2 | exact decide_eq_true hb2 | exact decide_eq_false hb2 | simpa using hb2) ?_
    refine At.region rfl rfl ?_
    refine Reg.pur rfl rfl rfl rfl (Pur.mv rfl) ?_
    refine Reg.pur rfl rfl rfl rfl (Pur.nilc rfl) ?_
    refine Reg.pur rfl rfl rfl rfl (Pur.fld _ fo37_1 rfl) ?_
    refine Reg.op rfl rfl rfl rfl (Does.bsl1 sl1_80 rfl rfl rfl rfl rfl) ?_
    rintro _ H1 ⟨rfl, hn1⟩
    refine Reg.pur rfl rfl rfl rfl (Pur.asg rfl) ?_
    refine Reg.nil ?_
    refine At.ret rfl Try.func39 rfl ?_
    simp only [decide_eq_true_eq, decide_eq_false_iff_not] at *
    first | exact ptrS_new hn1 (by simp [kidOffs, *]) (by simp [kidOffs, *]) | exact ptrS_nil (by simp [kidOffs, *])
  refine At.region rfl rfl ?_
  refine Reg.pur rfl rfl rfl rfl (Pur.eql rfl rfl) ?_
  refine Reg.pur rfl rfl rfl rfl (Pur.asg rfl) ?_
  refine Reg.nil ?_
  refine At.cond rfl rfl (fun hb3 => ?_) (fun hb3 => ?_)
  · refine At.region rfl rfl ?_
    refine Reg.pur rfl rfl rfl rfl (Pur.mv rfl) ?_
    refine Reg.pur rfl rfl rfl rfl (Pur.nilc rfl) ?_
    refine Reg.pur rfl rfl rfl rfl (Pur.fld _ fo37_1 rfl) ?_
    refine Reg.op rfl rfl rfl rfl (Does.bsl1 sl1_80 rfl rfl rfl rfl rfl) ?_
    rintro _ H1 ⟨rfl, hn1⟩
    refine Reg.pur rfl rfl rfl rfl (Pur.asg rfl) ?_
    refine Reg.nil ?_
    refine At.ret rfl Try.func39 rfl ?_
    simp only [decide_eq_true_eq, decide_eq_false_iff_not] at *
    first | exact ptrS_new hn1 (by simp [kidOffs, *]) (by simp [kidOffs, *]) | exact ptrS_nil (by simp [kidOffs, *])
  refine At.region rfl rfl ?_
  refine Reg.pur rfl rfl rfl rfl (Pur.eql rfl rfl) ?_
  refine Reg.pur rfl rfl rfl rfl (Pur.asg rfl) ?_
  refine Reg.nil ?_
  refine At.cond rfl rfl (fun hb4 => ?_) (fun hb4 => ?_)
  · refine At.condT rfl rfl (by first | exact hb4 | exact decide_eq_true hb4 | exact decide_eq_false hb4 | simpa using hb4) ?_
    refine At.draw (fun _ => True) [] mixed rfl rfl ?_
    refine RegD.tpur (i := 0) rfl rfl rfl rfl (by kernel_rfl) (Pur.mv rfl) ?_
    refine RegD.tpur (i := 1) rfl rfl rfl rfl (by kernel_rfl) (Pur.nilc rfl) ?_
    refine RegD.tpur (i := 2) rfl rfl rfl rfl (by kernel_rfl) (Pur.fld _ fo37_1 rfl) ?_
    refine RegD.tpur (i := 3) rfl rfl rfl rfl (by kernel_rfl) (Pur.mv rfl) ?_
    refine RegD.tpur (i := 4) rfl rfl rfl rfl (by kernel_rfl) (Pur.nilc rfl) ?_
    refine RegD.tpur (i := 5) rfl rfl rfl rfl (by kernel_rfl) (Pur.fld _ fo37_2 rfl) ?_
    refine RegD.one (i := 6) (by kernel_rfl) rfl rfl rfl rfl (Does.bsl1 sl1_80 rfl rfl rfl rfl rfl) ?_
    rintro _ H1 ⟨rfl, hn1⟩
    refine ⟨fun _ _ => trivial, ?_⟩
    refine RegD.tpur (i := 7) rfl rfl rfl rfl (by kernel_rfl) (Pur.asg rfl) ?_
    refine RegD.done (by kernel_rfl) ?_
    refine At.ret rfl Try.func39 rfl ?_
    simp only [decide_eq_true_eq, decide_eq_false_iff_not] at *
    first | exact ptrS_new hn1 (by simp [kidOffs, *]) (by simp [kidOffs, *]) | exact ptrS_nil (by simp [kidOffs, *])
  refine At.region rfl rfl ?_
  refine Reg.pur rfl rfl rfl rfl (Pur.eql rfl rfl) ?_
  refine Reg.pur rfl rfl rfl rfl (Pur.asg rfl) ?_
  refine Reg.nil ?_
  refine At.cond rfl rfl (fun hb5 => ?_) (fun hb5 => ?_)
  · refine At.condT rfl rfl (by first | exact hb5 | exact decide_eq_true hb5 | exact decide_eq_false hb5 | simpa using hb5) ?_
    refine At.draw (fun _ => True) [] mixed rfl rfl ?_
    refine RegD.tpur (i := 0) rfl rfl rfl rfl (by kernel_rfl) (Pur.mv rfl) ?_
    refine RegD.tpur (i := 1) rfl rfl rfl rfl (by kernel_rfl) (Pur.nilc rfl) ?_
    refine RegD.tpur (i := 2) rfl rfl rfl rfl (by kernel_rfl) (Pur.fld _ fo37_1 rfl) ?_
    refine RegD.tpur (i := 3) rfl rfl rfl rfl (by kernel_rfl) (Pur.mv rfl) ?_
    refine RegD.tpur (i := 4) rfl rfl rfl rfl (by kernel_rfl) (Pur.nilc rfl) ?_
    refine RegD.tpur (i := 5) rfl rfl rfl rfl (by kernel_rfl) (Pur.fld _ fo37_2 rfl) ?_
    refine RegD.one (i := 6) (by kernel_rfl) rfl rfl rfl rfl (Does.bsl1 sl1_80 rfl rfl rfl rfl rfl) ?_
    rintro _ H1 ⟨rfl, hn1⟩
    refine ⟨fun _ _ => trivial, ?_⟩
    refine RegD.tpur (i := 7) rfl rfl rfl rfl (by kernel_rfl) (Pur.asg rfl) ?_
    refine RegD.done (by kernel_rfl) ?_
    refine At.ret rfl Try.func39 rfl ?_
    simp only [decide_eq_true_eq, decide_eq_false_iff_not] at *
    first | exact ptrS_new hn1 (by simp [kidOffs, *]) (by simp [kidOffs, *]) | exact ptrS_nil (by simp [kidOffs, *])
  refine At.region rfl rfl ?_
  refine Reg.pur rfl rfl rfl rfl (Pur.eql rfl rfl) ?_
  refine Reg.pur rfl rfl rfl rfl (Pur.asg rfl) ?_
  refine Reg.nil ?_
  refine At.cond rfl rfl (fun hb6 => ?_) (fun hb6 => ?_)
  · refine At.condT rfl rfl (by first | exact hb6 | exact decide_eq_true hb6 | exact decide_eq_false hb6 | simpa using hb6) ?_
    refine At.draw (fun _ => True) [] mixed rfl rfl ?_
    refine RegD.tpur (i := 0) rfl rfl rfl rfl (by kernel_rfl) (Pur.mv rfl) ?_
    refine RegD.tpur (i := 1) rfl rfl rfl rfl (by kernel_rfl) (Pur.nilc rfl) ?_
    refine RegD.tpur (i := 2) rfl rfl rfl rfl (by kernel_rfl) (Pur.fld _ fo37_1 rfl) ?_
    refine RegD.tpur (i := 3) rfl rfl rfl rfl (by kernel_rfl) (Pur.mv rfl) ?_
    refine RegD.tpur (i := 4) rfl rfl rfl rfl (by kernel_rfl) (Pur.nilc rfl) ?_
    refine RegD.tpur (i := 5) rfl rfl rfl rfl (by kernel_rfl) (Pur.fld _ fo37_2 rfl) ?_
    refine RegD.one (i := 6) (by kernel_rfl) rfl rfl rfl rfl (Does.bsl1 sl1_80 rfl rfl rfl rfl rfl) ?_
    rintro _ H1 ⟨rfl, hn1⟩
    refine ⟨fun _ _ => trivial, ?_⟩
    refine RegD.tpur (i := 7) rfl rfl rfl rfl (by kernel_rfl) (Pur.asg rfl) ?_
    refine RegD.done (by kernel_rfl) ?_
    refine At.ret rfl Try.func39 rfl ?_
    simp only [decide_eq_true_eq, decide_eq_false_iff_not] at *
    first | exact ptrS_new hn1 (by simp [kidOffs, *]) (by simp [kidOffs, *]) | exact ptrS_nil (by simp [kidOffs, *])
  refine At.region rfl rfl ?_
  refine Reg.pur rfl rfl rfl rfl (Pur.eql rfl rfl) ?_
  refine Reg.pur rfl rfl rfl rfl (Pur.asg rfl) ?_
  refine Reg.nil ?_
  refine At.cond rfl rfl (fun hb7 => ?_) (fun hb7 => ?_)
  · refine At.condT rfl rfl (by first | exact hb7 | exact decide_eq_true hb7 | exact decide_eq_false hb7 | simpa using hb7) ?_
    refine At.draw (fun _ => True) [] mixed rfl rfl ?_
    refine RegD.tpur (i := 0) rfl rfl rfl rfl (by kernel_rfl) (Pur.mv rfl) ?_
    refine RegD.tpur (i := 1) rfl rfl rfl rfl (by kernel_rfl) (Pur.nilc rfl) ?_
    refine RegD.tpur (i := 2) rfl rfl rfl rfl (by kernel_rfl) (Pur.fld _ fo37_1 rfl) ?_
    refine RegD.tpur (i := 3) rfl rfl rfl rfl (by kernel_rfl) (Pur.mv rfl) ?_
    refine RegD.tpur (i := 4) rfl rfl rfl rfl (by kernel_rfl) (Pur.nilc rfl) ?_
    refine RegD.tpur (i := 5) rfl rfl rfl rfl (by kernel_rfl) (Pur.fld _ fo37_2 rfl) ?_
    refine RegD.one (i := 6) (by kernel_rfl) rfl rfl rfl rfl (Does.bsl1 sl1_80 rfl rfl rfl rfl rfl) ?_
    rintro _ H1 ⟨rfl, hn1⟩
    refine ⟨fun _ _ => trivial, ?_⟩
    refine RegD.tpur (i := 7) rfl rfl rfl rfl (by kernel_rfl) (Pur.asg rfl) ?_
    refine RegD.done (by kernel_rfl) ?_
    refine At.ret rfl Try.func39 rfl ?_
    simp only [decide_eq_true_eq, decide_eq_false_iff_not] at *
    first | exact ptrS_new hn1 (by simp [kidOffs, *]) (by simp [kidOffs, *]) | exact ptrS_nil (by simp [kidOffs, *])
  refine At.region rfl rfl ?_
  refine Reg.pur rfl rfl rfl rfl (Pur.eql rfl rfl) ?_
  refine Reg.pur rfl rfl rfl rfl (Pur.asg rfl) ?_
  refine Reg.nil ?_
  refine At.cond rfl rfl (fun hb8 => ?_) (fun hb8 => ?_)
  · refine At.draw (fun _ => True) [] mixed rfl rfl ?_
    refine RegD.tpur (i := 0) rfl rfl rfl rfl (by kernel_rfl) (Pur.mv rfl) ?_
    refine RegD.tpur (i := 1) rfl rfl rfl rfl (by kernel_rfl) (Pur.nilc rfl) ?_
    refine RegD.tpur (i := 2) rfl rfl rfl rfl (by kernel_rfl) (Pur.fld _ fo37_1 rfl) ?_
    refine RegD.tpur (i := 3) rfl rfl rfl rfl (by kernel_rfl) (Pur.mv rfl) ?_
    refine RegD.tpur (i := 4) rfl rfl rfl rfl (by kernel_rfl) (Pur.nilc rfl) ?_
    refine RegD.tpur (i := 5) rfl rfl rfl rfl (by kernel_rfl) (Pur.fld _ fo37_2 rfl) ?_
    refine RegD.one (i := 6) (by kernel_rfl) rfl rfl rfl rfl (Does.bsl1 sl1_80 rfl rfl rfl rfl rfl) ?_
    rintro _ H1 ⟨rfl, hn1⟩
    refine ⟨fun _ _ => trivial, ?_⟩
    refine RegD.tpur (i := 7) rfl rfl rfl rfl (by kernel_rfl) (Pur.asg rfl) ?_
    refine RegD.done (by kernel_rfl) ?_
    refine At.ret rfl Try.func39 rfl ?_
    simp only [decide_eq_true_eq, decide_eq_false_iff_not] at *
    first | exact ptrS_new hn1 (by simp [kidOffs, *]) (by simp [kidOffs, *]) | exact ptrS_nil (by simp [kidOffs, *])
  refine At.region rfl rfl ?_
  refine Reg.pur rfl rfl rfl rfl (Pur.eql rfl rfl) ?_
  refine Reg.pur rfl rfl rfl rfl (Pur.asg rfl) ?_
  refine Reg.nil ?_
  refine At.cond rfl rfl (fun hb9 => ?_) (fun hb9 => ?_)
  · refine At.condT rfl rfl (by first | exact hb9 | exact decide_eq_true hb9 | exact decide_eq_false hb9 | simpa using hb9) ?_
    refine At.draw (fun _ => True) [] mixed rfl rfl ?_
    refine RegD.tpur (i := 0) rfl rfl rfl rfl (by kernel_rfl) (Pur.mv rfl) ?_
    refine RegD.tpur (i := 1) rfl rfl rfl rfl (by kernel_rfl) (Pur.nilc rfl) ?_
    refine RegD.tpur (i := 2) rfl rfl rfl rfl (by kernel_rfl) (Pur.fld _ fo37_1 rfl) ?_
    refine RegD.tpur (i := 3) rfl rfl rfl rfl (by kernel_rfl) (Pur.mv rfl) ?_
    refine RegD.tpur (i := 4) rfl rfl rfl rfl (by kernel_rfl) (Pur.nilc rfl) ?_
    refine RegD.tpur (i := 5) rfl rfl rfl rfl (by kernel_rfl) (Pur.fld _ fo37_2 rfl) ?_
    refine RegD.tpur (i := 6) rfl rfl rfl rfl (by kernel_rfl) (Pur.mv rfl) ?_
    refine RegD.tpur (i := 7) rfl rfl rfl rfl (by kernel_rfl) (Pur.nilc rfl) ?_
    refine RegD.tpur (i := 8) rfl rfl rfl rfl (by kernel_rfl) (Pur.fld _ fo37_3 rfl) ?_
    refine RegD.one (i := 9) (by kernel_rfl) rfl rfl rfl rfl (Does.bsl1 sl1_80 rfl rfl rfl rfl rfl) ?_
    rintro _ H1 ⟨rfl, hn1⟩
    refine ⟨fun _ _ => trivial, ?_⟩
    refine RegD.tpur (i := 10) rfl rfl rfl rfl (by kernel_rfl) (Pur.asg rfl) ?_
    refine RegD.done (by kernel_rfl) ?_
    refine At.ret rfl Try.func39 rfl ?_
    simp only [decide_eq_true_eq, decide_eq_false_iff_not] at *
    first | exact ptrS_new hn1 (by simp [kidOffs, *]) (by simp [kidOffs, *]) | exact ptrS_nil (by simp [kidOffs, *])
  refine At.region rfl rfl ?_
  refine Reg.pur rfl rfl rfl rfl (Pur.eql rfl rfl) ?_
  refine Reg.pur rfl rfl rfl rfl (Pur.asg rfl) ?_
  refine Reg.nil ?_
  refine At.cond rfl rfl (fun hb10 => ?_) (fun hb10 => ?_)
  · refine At.draw (fun _ => True) [] mixed rfl rfl ?_
    refine RegD.tpur (i := 0) rfl rfl rfl rfl (by kernel_rfl) (Pur.mv rfl) ?_
    refine RegD.tpur (i := 1) rfl rfl rfl rfl (by kernel_rfl) (Pur.nilc rfl) ?_
    refine RegD.tpur (i := 2) rfl rfl rfl rfl (by kernel_rfl) (Pur.fld _ fo37_1 rfl) ?_
    refine RegD.tpur (i := 3) rfl rfl rfl rfl (by kernel_rfl) (Pur.mv rfl) ?_
    refine RegD.tpur (i := 4) rfl rfl rfl rfl (by kernel_rfl) (Pur.nilc rfl) ?_
    refine RegD.tpur (i := 5) rfl rfl rfl rfl (by kernel_rfl) (Pur.fld _ fo37_2 rfl) ?_
    refine RegD.tpur (i := 6) rfl rfl rfl rfl (by kernel_rfl) (Pur.mv rfl) ?_
    refine RegD.tpur (i := 7) rfl rfl rfl rfl (by kernel_rfl) (Pur.nilc rfl) ?_
    refine RegD.tpur (i := 8) rfl rfl rfl rfl (by kernel_rfl) (Pur.fld _ fo37_3 rfl) ?_
    refine RegD.one (i := 9) (by kernel_rfl) rfl rfl rfl rfl (Does.bsl1 sl1_80 rfl rfl rfl rfl rfl) ?_
    rintro _ H1 ⟨rfl, hn1⟩
    refine ⟨fun _ _ => trivial, ?_⟩
    refine RegD.tpur (i := 10) rfl rfl rfl rfl (by kernel_rfl) (Pur.asg rfl) ?_
    refine RegD.done (by kernel_rfl) ?_
    refine At.ret rfl Try.func39 rfl ?_
    simp only [decide_eq_true_eq, decide_eq_false_iff_not] at *
    first | exact ptrS_new hn1 (by simp [kidOffs, *]) (by simp [kidOffs, *]) | exact ptrS_nil (by simp [kidOffs, *])
  refine At.region rfl rfl ?_
  refine Reg.pur rfl rfl rfl rfl (Pur.asg rfl) ?_
  refine Reg.nil ?_
  refine At.ret rfl Try.func39 rfl ?_
  simp only [decide_eq_true_eq, decide_eq_false_iff_not] at *
  first | exact ptrS_new hn1 (by simp [kidOffs, *]) (by simp [kidOffs, *]) | exact ptrS_nil (by simp [kidOffs, *])

def nameOffs (k : Int) : List Nat :=
  if k = 0 then [4] else if k = 3 ∨ k = 6 ∨ k = 11 then [5] else if k = 4 then [5, 6] else if k = 12 then [5, 6, 7, 8] else []

theorem names_ok {b o : Nat} {k : Int} {c : List Value} {H : Heap} (hb : Blk H b c) (hk : c[o]? = some (I k)) :
    Ret Try.prog 38 [ptr b o] H (fun v H' => PtrS H H' v b ((nameOffs k).map (o + ·))) := by
  refine Ret.of_at (N := 45) Try.call38 Try.func38 rfl rfl rfl ?_
  refine At.region rfl rfl ?_
  refine Reg.pur rfl rfl rfl rfl (Pur.asg rfl) ?_
  refine Reg.nil ?_
  refine At.region rfl rfl ?_
  refine Reg.pur rfl rfl rfl rfl (Pur.mv rfl) ?_
  refine Reg.pur rfl rfl rfl rfl (Pur.nilc rfl) ?_
  refine Reg.pur rfl rfl rfl rfl (Pur.fld _ fo37_0 rfl) ?_
  refine Reg.lod rfl rfl rfl rfl (Lod.ld sc3 rfl hb hk) ?_
  refine Reg.nil ?_
  refine At.region rfl rfl ?_
  refine Reg.pur rfl rfl rfl rfl (Pur.eql rfl rfl) ?_
  refine Reg.pur rfl rfl rfl rfl (Pur.asg rfl) ?_
  refine Reg.nil ?_
  refine At.cond rfl rfl (fun hb1 => ?_) (fun hb1 => ?_)
  · refine At.region rfl rfl ?_
    refine Reg.pur rfl rfl rfl rfl (Pur.mv rfl) ?_
    refine Reg.pur rfl rfl rfl rfl (Pur.nilc rfl) ?_
    refine Reg.pur rfl rfl rfl rfl (Pur.fld _ fo37_4 rfl) ?_
    refine Reg.op rfl rfl rfl rfl (Does.bsl1 sl1_80 rfl rfl rfl rfl rfl) ?_
    rintro _ H1 ⟨rfl, hn1⟩
    refine Reg.pur rfl rfl rfl rfl (Pur.asg rfl) ?_
    refine Reg.nil ?_
    refine At.ret rfl Try.func38 rfl ?_
    simp only [decide_eq_true_eq, decide_eq_false_iff_not] at *
    first | exact ptrS_new hn1 (by simp [nameOffs, *]) (by simp [nameOffs, *]) | exact ptrS_nil (by simp [nameOffs, *])
  refine At.region rfl rfl ?_
  refine Reg.pur rfl rfl rfl rfl (Pur.eql rfl rfl) ?_
  refine Reg.pur rfl rfl rfl rfl (Pur.asg rfl) ?_
  refine Reg.nil ?_
  refine At.cond rfl rfl (fun hb2 => ?_) (fun hb2 => ?_)
  · refine At.condT rfl rfl (by first | exact hb2 | exact decide_eq_true hb2 | exact decide_eq_false hb2 | simpa using hb2) ?_
    refine At.region rfl rfl ?_
    refine Reg.pur rfl rfl rfl rfl (Pur.mv rfl) ?_
    refine Reg.pur rfl rfl rfl rfl (Pur.nilc rfl) ?_
    refine Reg.pur rfl rfl rfl rfl (Pur.fld _ fo37_5 rfl) ?_
    refine Reg.op rfl rfl rfl rfl (Does.bsl1 sl1_80 rfl rfl rfl rfl rfl) ?_
    rintro _ H1 ⟨rfl, hn1⟩
    refine Reg.pur rfl rfl rfl rfl (Pur.asg rfl) ?_
    refine Reg.nil ?_
    refine At.ret rfl Try.func38 rfl ?_
    simp only [decide_eq_true_eq, decide_eq_false_iff_not] at *
    first | exact ptrS_new hn1 (by simp [nameOffs, *]) (by simp [nameOffs, *]) | exact ptrS_nil (by simp [nameOffs, *])
  refine At.region rfl rfl ?_
  refine Reg.pur rfl rfl rfl rfl (Pur.eql rfl rfl) ?_
  refine Reg.pur rfl rfl rfl rfl (Pur.asg rfl) ?_
  refine Reg.nil ?_
  refine At.cond rfl rfl (fun hb3 => ?_) (fun hb3 => ?_)
  · refine At.condT rfl rfl (by first | exact hb3 | exact decide_eq_true hb3 | exact decide_eq_false hb3 | simpa using hb3) ?_
    refine At.region rfl rfl ?_
    refine Reg.pur rfl rfl rfl rfl (Pur.mv rfl) ?_
    refine Reg.pur rfl rfl rfl rfl (Pur.nilc rfl) ?_
    refine Reg.pur rfl rfl rfl rfl (Pur.fld _ fo37_5 rfl) ?_
    refine Reg.op rfl rfl rfl rfl (Does.bsl1 sl1_80 rfl rfl rfl rfl rfl) ?_
    rintro _ H1 ⟨rfl, hn1⟩
    refine Reg.pur rfl rfl rfl rfl (Pur.asg rfl) ?_
    refine Reg.nil ?_
    refine At.ret rfl Try.func38 rfl ?_
    simp only [decide_eq_true_eq, decide_eq_false_iff_not] at *
    first | exact ptrS_new hn1 (by simp [nameOffs, *]) (by simp [nameOffs, *]) | exact ptrS_nil (by simp [nameOffs, *])
  refine At.region rfl rfl ?_
  refine Reg.pur rfl rfl rfl rfl (Pur.eql rfl rfl) ?_
  refine Reg.pur rfl rfl rfl rfl (Pur.asg rfl) ?_
  refine Reg.nil ?_
  refine At.cond rfl rfl (fun hb4 => ?_) (fun hb4 => ?_)
  · refine At.region rfl rfl ?_
    refine Reg.pur rfl rfl rfl rfl (Pur.mv rfl) ?_
    refine Reg.pur rfl rfl rfl rfl (Pur.nilc rfl) ?_
    refine Reg.pur rfl rfl rfl rfl (Pur.fld _ fo37_5 rfl) ?_
    refine Reg.op rfl rfl rfl rfl (Does.bsl1 sl1_80 rfl rfl rfl rfl rfl) ?_
    rintro _ H1 ⟨rfl, hn1⟩
    refine Reg.pur rfl rfl rfl rfl (Pur.asg rfl) ?_
    refine Reg.nil ?_
    refine At.ret rfl Try.func38 rfl ?_
    simp only [decide_eq_true_eq, decide_eq_false_iff_not] at *
    first | exact ptrS_new hn1 (by simp [nameOffs, *]) (by simp [nameOffs, *]) | exact ptrS_nil (by simp [nameOffs, *])
  refine At.region rfl rfl ?_
  refine Reg.pur rfl rfl rfl rfl (Pur.eql rfl rfl) ?_
  refine Reg.pur rfl rfl rfl rfl (Pur.asg rfl) ?_
  refine Reg.nil ?_
  refine At.cond rfl rfl (fun hb5 => ?_) (fun hb5 => ?_)
  · refine At.draw (fun _ => True) [] mixed rfl rfl ?_
    refine RegD.tpur (i := 0) rfl rfl rfl rfl (by kernel_rfl) (Pur.mv rfl) ?_
    refine RegD.tpur (i := 1) rfl rfl rfl rfl (by kernel_rfl) (Pur.nilc rfl) ?_
    refine RegD.tpur (i := 2) rfl rfl rfl rfl (by kernel_rfl) (Pur.fld _ fo37_5 rfl) ?_
    refine RegD.tpur (i := 3) rfl rfl rfl rfl (by kernel_rfl) (Pur.mv rfl) ?_
    refine RegD.tpur (i := 4) rfl rfl rfl rfl (by kernel_rfl) (Pur.nilc rfl) ?_
    refine RegD.tpur (i := 5) rfl rfl rfl rfl (by kernel_rfl) (Pur.fld _ fo37_6 rfl) ?_
    refine RegD.one (i := 6) (by kernel_rfl) rfl rfl rfl rfl (Does.bsl1 sl1_80 rfl rfl rfl rfl rfl) ?_
    rintro _ H1 ⟨rfl, hn1⟩
    refine ⟨fun _ _ => trivial, ?_⟩
    refine RegD.tpur (i := 7) rfl rfl rfl rfl (by kernel_rfl) (Pur.asg rfl) ?_
    refine RegD.done (by kernel_rfl) ?_
    refine At.ret rfl Try.func38 rfl ?_
    simp only [decide_eq_true_eq, decide_eq_false_iff_not] at *
    first | exact ptrS_new hn1 (by simp [nameOffs, *]) (by simp [nameOffs, *]) | exact ptrS_nil (by simp [nameOffs, *])
  refine At.region rfl rfl ?_
  refine Reg.pur rfl rfl rfl rfl (Pur.eql rfl rfl) ?_
  refine Reg.pur rfl rfl rfl rfl (Pur.asg rfl) ?_
  refine Reg.nil ?_
  refine At.cond rfl rfl (fun hb6 => ?_) (fun hb6 => ?_)
  · refine At.draw (fun _ => True) [] mixed rfl rfl ?_
    refine RegD.tpur (i := 0) rfl rfl rfl rfl (by kernel_rfl) (Pur.mv rfl) ?_
    refine RegD.tpur (i := 1) rfl rfl rfl rfl (by kernel_rfl) (Pur.nilc rfl) ?_
    refine RegD.tpur (i := 2) rfl rfl rfl rfl (by kernel_rfl) (Pur.fld _ fo37_5 rfl) ?_
    refine RegD.tpur (i := 3) rfl rfl rfl rfl (by kernel_rfl) (Pur.mv rfl) ?_
    refine RegD.tpur (i := 4) rfl rfl rfl rfl (by kernel_rfl) (Pur.nilc rfl) ?_
    refine RegD.tpur (i := 5) rfl rfl rfl rfl (by kernel_rfl) (Pur.fld _ fo37_6 rfl) ?_
    refine RegD.tpur (i := 6) rfl rfl rfl rfl (by kernel_rfl) (Pur.mv rfl) ?_
    refine RegD.tpur (i := 7) rfl rfl rfl rfl (by kernel_rfl) (Pur.nilc rfl) ?_
    refine RegD.tpur (i := 8) rfl rfl rfl rfl (by kernel_rfl) (Pur.fld _ fo37_7 rfl) ?_
    refine RegD.tpur (i := 9) rfl rfl rfl rfl (by kernel_rfl) (Pur.mv rfl) ?_
    refine RegD.tpur (i := 10) rfl rfl rfl rfl (by kernel_rfl) (Pur.nilc rfl) ?_
    refine RegD.tpur (i := 11) rfl rfl rfl rfl (by kernel_rfl) (Pur.fld _ fo37_8 rfl) ?_
    refine RegD.one (i := 12) (by kernel_rfl) rfl rfl rfl rfl (Does.bsl1 sl1_80 rfl rfl rfl rfl rfl) ?_
    rintro _ H1 ⟨rfl, hn1⟩
    refine ⟨fun _ _ => trivial, ?_⟩
    refine RegD.tpur (i := 13) rfl rfl rfl rfl (by kernel_rfl) (Pur.asg rfl) ?_
    refine RegD.done (by kernel_rfl) ?_
    refine At.ret rfl Try.func38 rfl ?_
    simp only [decide_eq_true_eq, decide_eq_false_iff_not] at *
    first | exact ptrS_new hn1 (by simp [nameOffs, *]) (by simp [nameOffs, *]) | exact ptrS_nil (by simp [nameOffs, *])
  refine At.region rfl rfl ?_
  refine Reg.pur rfl rfl rfl rfl (Pur.asg rfl) ?_
  refine Reg.nil ?_
  refine At.ret rfl Try.func38 rfl ?_
  simp only [decide_eq_true_eq, decide_eq_false_iff_not] at *
  first | exact ptrS_new hn1 (by simp [nameOffs, *]) (by simp [nameOffs, *]) | exact ptrS_nil (by simp [nameOffs, *])

def mostT (k : Int) : Int := if k = 1 then 1073741823 else if k = 2 then 1 else if k = 8 then 5 else if k = 10 ∨ k = 12 then 3 else -1

theorem most_ok (k : Int) (H : Heap) : Ret Try.prog 37 [I k] H (fun v H' => v = I (mostT k) ∧ H' = H) := by
  refine Ret.of_at (N := 13) Try.call37 Try.func37 rfl rfl rfl ?_
  refine At.region rfl rfl ?_
  refine Reg.pur rfl rfl rfl rfl (Pur.asg rfl) ?_
  refine Reg.nil ?_
  refine At.region rfl rfl ?_
  refine Reg.pur rfl rfl rfl rfl (Pur.mv rfl) ?_
  refine Reg.nil ?_
  refine At.region rfl rfl ?_
  refine Reg.pur rfl rfl rfl rfl (Pur.eql rfl rfl) ?_
  refine Reg.pur rfl rfl rfl rfl (Pur.asg rfl) ?_
  refine Reg.nil ?_
  refine At.cond rfl rfl (fun hb1 => ?_) (fun hb1 => ?_)
  · refine At.region rfl rfl ?_
    refine Reg.pur rfl rfl rfl rfl (Pur.asg rfl) ?_
    refine Reg.nil ?_
    refine At.ret rfl Try.func37 rfl ?_
    refine And.intro ?_ rfl
    simp only [decide_eq_true_eq, decide_eq_false_iff_not] at *
    simp [mostT, *]
  refine At.region rfl rfl ?_
  refine Reg.pur rfl rfl rfl rfl (Pur.eql rfl rfl) ?_
  refine Reg.pur rfl rfl rfl rfl (Pur.asg rfl) ?_
  refine Reg.nil ?_
  refine At.cond rfl rfl (fun hb2 => ?_) (fun hb2 => ?_)
  · refine At.region rfl rfl ?_
    refine Reg.pur rfl rfl rfl rfl (Pur.asg rfl) ?_
    refine Reg.nil ?_
    refine At.ret rfl Try.func37 rfl ?_
    refine And.intro ?_ rfl
    simp only [decide_eq_true_eq, decide_eq_false_iff_not] at *
    simp [mostT, *]
  refine At.region rfl rfl ?_
  refine Reg.pur rfl rfl rfl rfl (Pur.eql rfl rfl) ?_
  refine Reg.pur rfl rfl rfl rfl (Pur.asg rfl) ?_
  refine Reg.nil ?_
  refine At.cond rfl rfl (fun hb3 => ?_) (fun hb3 => ?_)
  · refine At.region rfl rfl ?_
    refine Reg.pur rfl rfl rfl rfl (Pur.asg rfl) ?_
    refine Reg.nil ?_
    refine At.ret rfl Try.func37 rfl ?_
    refine And.intro ?_ rfl
    simp only [decide_eq_true_eq, decide_eq_false_iff_not] at *
    simp [mostT, *]
  refine At.region rfl rfl ?_
  refine Reg.pur rfl rfl rfl rfl (Pur.eql rfl rfl) ?_
  refine Reg.pur rfl rfl rfl rfl (Pur.asg rfl) ?_
  refine Reg.nil ?_
  refine At.cond rfl rfl (fun hb4 => ?_) (fun hb4 => ?_)
  · refine At.condT rfl rfl (by first | exact hb4 | exact decide_eq_true hb4 | exact decide_eq_false hb4 | simpa using hb4) ?_
    refine At.region rfl rfl ?_
    refine Reg.pur rfl rfl rfl rfl (Pur.asg rfl) ?_
    refine Reg.nil ?_
    refine At.ret rfl Try.func37 rfl ?_
    refine And.intro ?_ rfl
    simp only [decide_eq_true_eq, decide_eq_false_iff_not] at *
    simp [mostT, *]
  refine At.region rfl rfl ?_
  refine Reg.pur rfl rfl rfl rfl (Pur.eql rfl rfl) ?_
  refine Reg.pur rfl rfl rfl rfl (Pur.asg rfl) ?_
  refine Reg.nil ?_
  refine At.cond rfl rfl (fun hb5 => ?_) (fun hb5 => ?_)
  · refine At.region rfl rfl ?_
    refine Reg.pur rfl rfl rfl rfl (Pur.asg rfl) ?_
    refine Reg.nil ?_
    refine At.ret rfl Try.func37 rfl ?_
    refine And.intro ?_ rfl
    simp only [decide_eq_true_eq, decide_eq_false_iff_not] at *
    simp [mostT, *]
  refine At.region rfl rfl ?_
  refine Reg.pur rfl rfl rfl rfl (Pur.asg rfl) ?_
  refine Reg.nil ?_
  refine At.ret rfl Try.func37 rfl ?_
  refine And.intro ?_ rfl
  simp only [decide_eq_true_eq, decide_eq_false_iff_not] at *
  simp [mostT, *]
end Go.Proofs.Ytjhkmebmbopfoaa
