/-
  Regions whose order is drawn: several loud operations may come up; the orders meet behind them.
-/
import Derived.Test.YtjhkmebmbopfoaaDoorFxM
namespace Go.Fx
set_option linter.unusedSimpArgs false
set_option linter.unusedVariables false
open Go

section
variable {P : Program} {f : FuncId} {R : Value → Heap → Prop} {ops : Array Oper} {N : Nat} {S : Heap → Prop} {fs : List Nat} {fuel : Nat} {ls : Array Bool} {K : Env → Heap → Prop} {e : Env} {H : Heap} {i t : Nat} {o : Oper} {C : Value → Heap → Prop} {v : Value} {j d : Nat} {b b' : Bool}
/-- operation i is picked -/
def RegOp (P : Program) (ops : Array Oper) (N : Nat) (S : Heap → Prop) (fs : List Nat) (fuel : Nat) (ls : Array Bool) (K : Env → Heap → Prop) (e : Env) (H : Heap) (i : Nat) : Prop :=
  ∀ (w0 : World) (n : Nat) (a : Act), a.defers = [] → a.tmps.size = N → Ag e a.tmps →
    wpOp P ops (QK N w0 K) i (fun a' w' => (fs.contains i = false → S (mk w0 H n).heap → S w'.heap) ∧ wpF P ops (QK N w0 K) (fun w => S w.heap) (fun i => fs.contains i) fuel (ls.setIfInBounds i true) a' w') a (mk w0 H n)
theorem RegD.forks (is : List Nat) (hr : (Region.ready .any ops ls == is) = true) (h0 : is ≠ []) (h : ∀ i ∈ is, RegOp P ops N S fs fuel ls K e H i) : RegD P ops N S fs (fuel + 1) ls K e H := by
  intro w0 n a hdf hs hA
  have hr' : Region.ready .any ops ls = is := by simpa using hr
  exact ⟨fun h1 => (h0 (hr' ▸ h1)).elim, fun j hj => h j (hr' ▸ hj) w0 n a hdf hs hA⟩
theorem RegD.fork2 {i j : Nat} (hr : (Region.ready .any ops ls == [i, j]) = true) (h1 : RegOp P ops N S fs fuel ls K e H i) (h2 : RegOp P ops N S fs fuel ls K e H j) : RegD P ops N S fs (fuel + 1) ls K e H :=
  RegD.forks [i, j] hr (by simp) (by intro x hx; simp at hx; rcases hx with rfl | rfl <;> assumption)
theorem RegD.fork3 {i j k : Nat} (hr : (Region.ready .any ops ls == [i, j, k]) = true) (h1 : RegOp P ops N S fs fuel ls K e H i) (h2 : RegOp P ops N S fs fuel ls K e H j) (h3 : RegOp P ops N S fs fuel ls K e H k) : RegD P ops N S fs (fuel + 1) ls K e H :=
  RegD.forks [i, j, k] hr (by simp) (by intro x hx; simp at hx; rcases hx with rfl | rfl | rfl <;> assumption)
theorem RegOp.one' (ho : ops[i]? = some o) (hw : ∀ a : Act, Ag e a.tmps → Region.wanted o (yielded ops a.tmps) = true) (hd : okd o.dst N = true) (h : Does P o e H C)
    (hk : ∀ v H', C v H' → (fs.contains i = false → S H → S H') ∧ RegD P ops N S fs fuel (ls.setIfInBounds i true) K (up o.dst v e) H') : RegOp P ops N S fs fuel ls K e H i := by
  intro w0 n a hdf hs hA
  simp only [wpOp, ho, hw a hA, if_true]
  exact .inl (h w0 n a hA _ _ fun v H' n' hC => ⟨(hk v H' hC).1, (hk v H' hC).2 w0 n' _ (by rw [defers_put]; exact hdf) (by rw [size_put]; exact hs) (hA.put hs hd v)⟩)
theorem RegOp.one (ho : ops[i]? = some o) (hg : o.guard = none) (hd : o.dst = some t) (hN : Nat.blt t N = true) (h : Does P o e H C) (hk : ∀ v H', C v H' → (fs.contains i = false → S H → S H') ∧ RegD P ops N S fs fuel (ls.setIfInBounds i true) K ((t, v) :: e) H') : RegOp P ops N S fs fuel ls K e H i :=
  RegOp.one' ho (fun a hA => by simp [Region.wanted, hg]) (okd_some hd hN) h fun v H' hC => by rw [up_some hd]; exact hk v H' hC
theorem RegOp.one0 (ho : ops[i]? = some o) (hg : o.guard = none) (hd : o.dst = none) (h : Does P o e H C) (hk : ∀ v H', C v H' → (fs.contains i = false → S H → S H') ∧ RegD P ops N S fs fuel (ls.setIfInBounds i true) K e H') : RegOp P ops N S fs fuel ls K e H i :=
  RegOp.one' ho (fun a hA => by simp [Region.wanted, hg]) (okd_none hd) h fun v H' hC => by rw [up_none hd]; exact hk v H' hC
theorem RegOp.gone (ho : ops[i]? = some o) (hg : o.guard = some (j, b)) (hj : (ops[j]?).bind (·.dst) = some d) (hb : lk e d = some (.bool b)) (hd : o.dst = some t) (hN : Nat.blt t N = true) (h : Does P o e H C) (hk : ∀ v H', C v H' → (fs.contains i = false → S H → S H') ∧ RegD P ops N S fs fuel (ls.setIfInBounds i true) K ((t, v) :: e) H') : RegOp P ops N S fs fuel ls K e H i :=
  RegOp.one' ho (fun a hA => by have hy := yielded_of (ops := ops) hA hj hb; simp [Region.wanted, hg, hy]) (okd_some hd hN) h fun v H' hC => by rw [up_some hd]; exact hk v H' hC

theorem RegD.skipU (ho : ops[i]? = some o) (hg : o.guard = some (j, b)) (hj : (ops[j]?).bind (·.dst) = some d) (hb : lk e d = some undef) (hd : o.dst = some t) (hN : Nat.blt t N = true) (hp : plan ops ls i = true) (hk : RegD P ops N S fs fuel (ls.setIfInBounds i true) K ((t, undef) :: e) H) : RegD P ops N S fs (fuel + 1) ls K e H :=
  RegD.raw (fun _ => True) (.inl fun _ => trivial) ho hd hN hp (fun _ _ => trivial) (fun a hA => .inr ⟨by
    have hy : yielded ops a.tmps j = none := by
      unfold yielded
      rw [hj]
      simp only [Option.bind_some, hA d _ hb]; rfl
    simp only [Region.wanted, hg, hy]; rfl, rfl⟩) hk
theorem Reg.skipU {is : List Nat} (ho : ops[i]? = some o) (hg : o.guard = some (j, b)) (hj : (ops[j]?).bind (·.dst) = some d) (hb : lk e d = some undef) (hd : o.dst = some t) (hN : Nat.blt t N = true) (hk : Reg P ops N is K ((t, undef) :: e) H) : Reg P ops N (i :: is) K e H := by
  intro w0 n a hdf hs hA
  have hy : yielded ops a.tmps j = none := by
    unfold yielded
    rw [hj]
    simp only [Option.bind_some, hA d _ hb]; rfl
  have hw : Region.wanted o (yielded ops a.tmps) = false := by simp only [Region.wanted, hg, hy]; rfl
  simp only [wpOps, ho, hw]
  rw [← up_some hd undef e] at hk
  exact hk w0 n _ (by rw [defers_put]; exact hdf) (by rw [size_put]; exact hs) (hA.put hs (okd_some hd hN) undef)
theorem At.drawK0 {k : List Item} {id : Nat} (hm : P.follows .mixedOrders = true)
    (h : RegD P ops N S fs ops.size (Array.replicate ops.size false) K e H) (hK : ∀ e' H', K e' H' → At P f N R (k := k) e' H') :
    At P f N R (k := .code (.region id ops true) :: k) e H := by
  intro w0 n a cs hdf hs hA
  obtain ⟨x, a', w', hq, harr⟩ := wp_region_any (id := id) (ops := ops) (Q := QK N w0 K) (a := a) (w := mk w0 H n) hm (wpF.any _ _ _ _ (h w0 (n + 1) a hdf hs hA)) (fb f) k cs
  cases x with
  | normal =>
    obtain ⟨hd', hs', e', H', n', rfl, hA', hk⟩ := hq
    exact (hK _ _ hk w0 n' a' cs hd' hs' hA').steps harr
  | _ => exact hq.elim
/-- The orders of a region meet behind it. -/
theorem At.drawJ {σ : Type} (st : σ → Env) (I : σ → Heap → Prop) {k k' : List Item} {m : Nat} {l : List (Nat × List Value)} (h0 : Bks l H) (fs : List Nat) (hm : P.follows .mixedOrders = true) (hh : hd 60 k = .region ops true k') (hi : ops.size = m)
    (h : RegD P ops N (Bks l) fs m (Array.replicate m false) (fun e' H' => ∃ x, I x H' ∧ Sub (st x) e') e H) (h2 : ∀ x H', I x H' → At P f N R (k := k') (st x) H') : At P f N R (k := k) e H :=
  At.of_hd 60 k (by rw [hh]; exact fun id => At.drawK0 hm (K := fun e' H' => ∃ x, I x H' ∧ Sub (st x) e') (by rw [hi]; exact h) (fun e' H' ⟨x, hx, hs⟩ => At.sub hs (h2 x H' hx)))
end
/-- blocks from lo to hi are as they were -/
def Same (lo hi : Nat) (H H' : Heap) : Prop := hi ≤ H.size ∧ H.size ≤ H'.size ∧ ∀ b, lo ≤ b → b < hi → H'[b]? = H[b]?
section
variable {lo hi : Nat} {A B C : Heap}
theorem Same.refl {hi : Nat} (lo : Nat) {H : Heap} (h : hi ≤ H.size) : Same lo hi H H := ⟨h, Nat.le_refl _, fun _ _ _ => rfl⟩
theorem Same.via {S : Nat → Prop} (h : Same lo hi A B) (k : But S B C) (hs : ∀ g, lo ≤ g → g < hi → ¬ S g) : Same lo hi A C :=
  ⟨h.1, Nat.le_trans h.2.1 k.1, fun b h1 h2 => (k.2 b (by have := h.1; have := h.2.1; omega) (hs b h1 h2)).trans (h.2.2 b h1 h2)⟩
theorem Same.ext (h : Same lo hi A B) (k : Ext B C) : Same lo hi A C := h.via k.but (S := fun _ => False) (fun _ _ _ h => h)
theorem Same.upw {x : Nat} {c : List Value} (h : Same lo hi A B) (u : Upd B C x c) (hx : x < lo ∨ hi ≤ x) : Same lo hi A C := h.via u.but (fun g h1 h2 e => by subst e; omega)
theorem Same.lt (h : Same lo hi A B) : hi ≤ A.size ∧ A.size ≤ B.size := ⟨h.1, h.2.1⟩
theorem Same.but (h : Same lo hi A B) : But (fun g => ¬ (lo ≤ g ∧ g < hi)) A B := ⟨h.2.1, fun b _ hb => by
  have : lo ≤ b ∧ b < hi := Decidable.not_not.1 hb
  exact h.2.2 b this.1 this.2⟩
end
end Go.Fx
