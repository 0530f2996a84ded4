/-
  Facts of memory carried from heap to heap, under one name each.
-/
import Derived.Test.YtjhkmebmbopfoaaDoorFxK
import Derived.Test.YtjhkmebmbopfoaaDoorFxI
import Derived.Test.YtjhkmebmbopfoaaDoorFxG
import Derived.Test.YtjhkmebmbopfoaaDoorCom
namespace Go.Fx
set_option linter.unusedSimpArgs false
set_option linter.unusedVariables false
open Go

theorem Ext.ext {A B C : Heap} (h : Ext A B) (k : Ext B C) : Ext A C := h.trans k
theorem Ext.lt {A B : Heap} (h : Ext A B) : A.size ≤ B.size := h.1
theorem But.lt {S : Nat → Prop} {A B : Heap} (h : But S A B) : A.size ≤ B.size := h.1
theorem But.ext' {S : Nat → Prop} {A B C : Heap} (h : But S A B) (k : Ext B C) : But S A C := h.trans k.but
theorem Upd.size {H H' : Heap} {b : Nat} {c : List Value} (h : Upd H H' b c) : H'.size = H.size := h.1
theorem tk_at {c xs : List Value} {M j : Nat} {v : Value} (h : c.take M = xs) (hv : xs[j]? = some v) : c[j]? = some v := by
  rw [← h, List.getElem?_take] at hv
  split at hv
  · exact hv
  · cases hv
theorem Blk.blk {H : Heap} {b : Nat} {c : List Value} (h : Blk H b c) : Blk H b c := h
theorem Own.of {H : Heap} {b : Nat} {c c' : List Value} (h : Own H b c) (e : c = c') : Own H b c' := e ▸ h
theorem Blk.of {H : Heap} {b : Nat} {c c' : List Value} (h : Blk H b c) (e : c = c') : Blk H b c' := e ▸ h
theorem New.of_eq {H H' : Heap} {xs : List Value} {el : TypeId} (h : H' = H.push (.cells xs.toArray el (0, 0))) : New H H' xs := ⟨el, h⟩
theorem SlT.upd {α : Type} {H H' : Heap} {enc : α → List Value} {n b : Nat} {c : List Value} {v : Value} {L : List α} (h : SlT H enc n v L) (u : Upd H H' b c) (hs : ∀ g, v.ownBlock = some g → g ≠ b) : SlT H' enc n v L :=
  h.but u.but hs
theorem OwnS.upd {H H' : Heap} {B b : Nat} {el : TypeId} {s : Nat} {v : Value} {n : Nat} {xs c : List Value} (h : OwnS H B el s v n xs) (u : Upd H H' b c) (hs : ∀ g, v.ownBlock = some g → g ≠ b) : OwnS H' B el s v n xs :=
  h.but u.but hs
theorem OwnS.updB {H H' : Heap} {B b : Nat} {el : TypeId} {s : Nat} {v : Value} {n : Nat} {xs c : List Value} (h : OwnS H B el s v n xs) (u : Upd H H' b c) (hb : b < B) : OwnS H' B el s v n xs := by
  refine h.but u.but fun g hg e => ?_
  obtain ⟨_, ⟨rfl, _⟩ | ⟨g', cap, cur, rfl, h2, _⟩⟩ := h
  · cases hg
  · simp only [Value.ownBlock, Option.some.injEq] at hg
    omega
/-- a slice's block; -1: it has none -/
def ob : Option Addr → Int
  | none => -1
  | some a => a.block
theorem ob_some (b o : Nat) : ob (some ⟨b, o, none⟩) = b := rfl
theorem ob_none : ob none = -1 := rfl
/-- a slice of the call's own, its cells -/
abbrev Gs (H : Heap) (B : Nat) (el : TypeId) (s : Nat) (A : Option Addr) (cap n : Nat) (xs : List Value) : Prop := OwnS H B el s (.slice A n cap) n xs
theorem gs_ob {A : Option Addr} {n cap g : Nat} (h : (Value.slice A n cap).ownBlock = some g) : ob A = g := by
  cases A with
  | none => cases h
  | some a => simp only [Value.ownBlock] at h; simp only [ob]; injection h with h; omega
theorem SlT.nil_any {α : Type} {H H' : Heap} {enc : α → List Value} {n : Nat} {v : Value} {L : List α} (h : SlT H enc n v L) (h0 : L.length = 0) : SlT H' enc n v L := by
  obtain ⟨A, cap, rfl, h1, h2, h3, _⟩ := h
  exact ⟨A, cap, rfl, h1, h2, h3, .inl h0⟩
theorem SlT.via {α : Type} {H H' : Heap} {S : Nat → Prop} {enc : α → List Value} {n len cap : Nat} {A : Option Addr} {L : List α} (h : SlT H enc n (.slice A len cap) L) (he : But S H H') (hs : L.length ≠ 0 → ∀ g : Nat, (g : Int) = ob A → ¬ S g) : SlT H' enc n (.slice A len cap) L := by
  by_cases h0 : L.length = 0
  · exact h.nil_any h0
  · exact h.but he fun g hg => hs h0 g (gs_ob hg).symm
theorem SlT.upw {α : Type} {H H' : Heap} {enc : α → List Value} {n b len cap : Nat} {c : List Value} {A : Option Addr} {L : List α} (h : SlT H enc n (.slice A len cap) L) (u : Upd H H' b c) (hb : L.length = 0 ∨ ob A ≠ b) : SlT H' enc n (.slice A len cap) L :=
  h.via u.but fun h0 g hg e => by subst e; exact (hb.resolve_left h0) hg.symm
theorem SlT.lt {α : Type} {H : Heap} {enc : α → List Value} {n len cap : Nat} {A : Option Addr} {L : List α} (h : SlT H enc n (.slice A len cap) L) : L.length = 0 ∨ (0 ≤ ob A ∧ ob A < H.size) := by
  obtain ⟨A', cap', e, h1, h2, h3, h4 | ⟨b, o, c, rfl, hb, _⟩⟩ := h
  · exact .inl h4
  · cases e; exact .inr ⟨by simp only [ob]; omega, by simp only [ob]; exact Int.ofNat_lt.2 hb.lt⟩
section gs
variable {H H' : Heap} {B : Nat} {el : TypeId} {s : Nat} {A : Option Addr} {cap n : Nat} {xs : List Value}
theorem OwnS.lt (h : OwnS H B el s (.slice A n cap) n xs) : ob A < H.size ∧ (ob A = -1 ∨ (B : Int) ≤ ob A) := by
  obtain ⟨_, ⟨h1, _⟩ | ⟨g, cap, cur, h1, h2, h3, _⟩⟩ := h
  · cases h1; exact ⟨by simp only [ob]; omega, .inl rfl⟩
  · cases h1
    have : g < H.size := by
      rcases Nat.lt_or_ge g H.size with h' | h'
      · exact h'
      · simp [Array.getElem?_eq_none h'] at h3
    simp only [ob]; omega
theorem OwnS.via {S : Nat → Prop} (h : OwnS H B el s (.slice A n cap) n xs) (he : But S H H') (hs : ∀ g : Nat, (g : Int) = ob A → ¬ S g) : OwnS H' B el s (.slice A n cap) n xs :=
  h.but he fun g hg => hs g (gs_ob hg).symm
theorem OwnS.upw {b : Nat} {c : List Value} (h : OwnS H B el s (.slice A n cap) n xs) (u : Upd H H' b c) (hb : ob A ≠ b) : OwnS H' B el s (.slice A n cap) n xs :=
  h.via u.but fun g hg e => by subst e; exact hb hg.symm
theorem Own.upw {b b' : Nat} {c c' : List Value} (h : Own H b c) (u : Upd H H' b' c') (hb : b ≠ b') : Own H' b c := h.upd u hb
theorem Blk.upw {b b' : Nat} {c c' : List Value} (h : Blk H b c) (u : Upd H H' b' c') (hb : b ≠ b') : Blk H' b c := h.upd u hb
theorem Ext.upw {H0 : Heap} {b' : Nat} {c' : List Value} (h : Ext H0 H) (u : Upd H H' b' c') (hb : H0.size ≤ b') : Ext H0 H' := h.upd u hb
theorem OwnS.nilG : OwnS H B el s (.slice none 0 0) 0 [] := OwnS.nil _ _ _ _
theorem OwnS.len_eq (h : OwnS H B el s (.slice A n cap) n xs) : xs.length = n * s := h.1
theorem Own.via {S : Nat → Prop} {b : Nat} {c : List Value} (h : Own H b c) (he : But S H H') (hb : ¬ S b) : Own H' b c := h.but he hb
theorem Blk.via {S : Nat → Prop} {b : Nat} {c : List Value} (h : Blk H b c) (he : But S H H') (hb : ¬ S b) : Blk H' b c := h.but he hb
theorem Ext.via {S : Nat → Prop} {H0 : Heap} (h : Ext H0 H) (he : But S H H') (hb : ∀ g, g < H0.size → ¬ S g) : Ext H0 H' := h.trBut he hb
theorem OwnS.blk (h : OwnS H B el s (.slice A n cap) n xs) (h0 : 0 < n) : ∃ g c, A = some ⟨g, 0, none⟩ ∧ Own H g c ∧ c.take (n * s) = xs ∧ B ≤ g := by
  obtain ⟨_, ⟨h1, h2⟩ | ⟨g, cap, cur, h1, h2, h3, h4, h5, h6, h7⟩⟩ := h
  · omega
  · cases h1; exact ⟨g, cur.toList, rfl, ⟨el, by simpa using h3⟩, h7, h2⟩
end gs
abbrev e1 (x : Int) : List Value := [I x]
theorem wide1 (L : List Int) : Wide e1 1 L := fun _ _ => rfl
theorem ones_e1 (L : List Int) : ones (L.flatMap e1) = true := by
  simp only [ones, List.all_eq_true, List.mem_flatMap]
  rintro v ⟨x, _, hv⟩
  simp only [List.mem_singleton] at hv
  subst hv; rfl
theorem gs_at {α : Type} {enc : α → List Value} {n : Nat} {L : List α} {H : Heap} {B : Nat} {el : TypeId} {A : Option Addr} {cap : Nat} (hL : Wide enc n L) (h : Gs H B el n A cap L.length (L.flatMap enc)) {i : Nat} (hi : i < L.length) :
    ∃ b c, A = some ⟨b, 0, none⟩ ∧ Blk H b c ∧ (c.drop (0 + i * n)).take n = enc L[i] := by
  obtain ⟨g, c, rfl, h1, h2, _⟩ := h.blk (by omega)
  refine ⟨g, c, rfl, h1.blk, ?_⟩
  rw [Nat.zero_add, take_mid h2 (by rw [← Nat.succ_mul]; exact Nat.mul_le_mul_right n hi)]
  exact flat_at L i hL hi
theorem gs_int {L : List Int} {H : Heap} {B : Nat} {el : TypeId} {A : Option Addr} {cap : Nat} (h : Gs H B el 1 A cap L.length (L.flatMap e1)) {z : Int} (h0 : 0 ≤ z) (h1 : z < L.length) :
    ∃ b c, A = some ⟨b, 0, none⟩ ∧ Blk H b c ∧ c[0 + z.toNat * 1]? = some (I (L.getD z.toNat 0)) := by
  obtain ⟨b, c, hA, hb, hc⟩ := gs_at (wide1 L) h (i := z.toNat) (by omega)
  refine ⟨b, c, hA, hb, ?_⟩
  have := at_tk (j := 0) hc (by omega) (v := I (L.getD z.toNat 0)) (by simp [List.getD_eq_getElem?_getD, List.getElem?_eq_getElem (show z.toNat < L.length by omega)])
  simpa using this
theorem sl_one {α : Type} {enc : α → List Value} {n : Nat} {H H' : Heap} {x : α} (hx : (enc x).length = n) (hn : 0 < n) (h : New H H' [enc x].flatten) : SlT H' enc n (.slice (some ⟨H.size, 0, none⟩) 1 1) [x] :=
  sl_new (L := [x]) (fun y hy => by simp at hy; subst hy; exact hx) hn h (by simp)
/-- append, of things -/
theorem Does.appL {P : Program} {dst : Option Tmp} {ty : TypeId} {pos : String} {aft : Array Edge} {gd : Option (Nat × Bool)} {e : Env} {H : Heap} {x y : Operand} {t el : TypeId} {α : Type} {enc : α → List Value} {s by' B cap : Nat} {A : Option Addr} {u : Value} {L M : List α}
    (ht : appT P t = some (el, s, by')) (hx : ev e x = some (.slice A L.length cap)) (hy : ev e y = some u) (hb1 : 1 ≤ by') (hown : Gs H B el s A cap L.length (L.flatMap enc)) (hM : Wide enc s M) (hsrc : SlT H enc s u M) (h1 : ones (M.flatMap enc) = true)
    (hby : (L.length + M.length) * by' ≤ 140737488355328) (hB : B ≤ H.size) :
    Does P ⟨dst, .call { callee := .builtin .append, args := #[x, y], argTypes := #[t, t] }, ty, pos, aft, gd⟩ e H (fun v' H' => ∃ A' cap', v' = .slice A' (L ++ M).length cap' ∧ Gs H' B el s A' cap' (L ++ M).length ((L ++ M).flatMap enc) ∧
      But (fun g => (g : Int) = ob A) H H' ∧ (ob A' = ob A ∨ ob A' = H.size)) := by
  have h63 : L.length + M.length ≤ maxLen := by
    have : (L.length + M.length) * 1 ≤ (L.length + M.length) * by' := Nat.mul_le_mul_left _ hb1
    rw [show maxLen = 9223372036854775807 from rfl]; omega
  refine (Does.app ht hx hy hown (sl_src hM hsrc) h1 h63 hby hB).mono ?_
  rintro v' H' ⟨ho, hbut, hnil, hbl⟩
  rw [← List.length_append, ← List.flatMap_append] at ho
  have hq : ∃ A' cap', v' = .slice A' (L ++ M).length cap' := by
    obtain ⟨_, ⟨rfl, h0⟩ | ⟨g, cap, cur, rfl, _⟩⟩ := ho
    · exact ⟨none, 0, by rw [h0]⟩
    · exact ⟨_, _, rfl⟩
  obtain ⟨A', cap', rfl⟩ := hq
  refine ⟨A', cap', rfl, ho, hbut.mono ?_, ?_⟩
  · intro b hb h
    exact (gs_ob h).symm
  · cases A' with
    | none =>
      have : A = none := by
        cases A with
        | none => rfl
        | some a =>
          obtain ⟨_, ⟨h, h0⟩ | ⟨g, cap, cur, h, _⟩⟩ := ho
          · simp only [Value.slice.injEq, true_and] at h
            have := (hnil.1 (by rw [h.1, h.2])).1
            cases this
          · cases h
      subst this; exact .inl rfl
    | some a' =>
      have he : (Value.slice (some a') (L ++ M).length cap').ownBlock = some a'.block := rfl
      rcases hbl with h | h
      · rw [he] at h; exact .inl (by rw [gs_ob h.symm]; rfl)
      · rw [he] at h; injection h with h; exact .inr (by simp [ob, h])
/-- what stands behind the block at the head -/
def aftB : Nat → List Item → List Item
  | 0, k => k
  | _ + 1, [] => []
  | n + 1, .code c :: k => match c with
    | .skip => aftB n k
    | .label _ => aftB n k
    | .seq a b => aftB n (.code a :: .code b :: k)
    | .block _ _ => Fx.nrm 60 k
    | .exit id => match exitTo id k with
      | some k' => aftB n k'
      | none => []
    | _ => []
  | n + 1, .inBlock _ :: k => aftB n k
  | _ + 1, _ => []
/-- The ways out of a block meet behind it. -/
theorem At.joinb {P : Program} {f : FuncId} {N : Nat} {R : Value → Heap → Prop} {k : List Item} {e : Env} {H : Heap} {σ : Type} (st : σ → Env) (I : σ → Heap → Prop)
    (h1 : (∀ x H', I x H' → At P f N R (k := aftB 60 k) (st x) H') → At P f N R (k := k) e H) (h2 : ∀ x H', I x H' → At P f N R (k := aftB 60 k) (st x) H') : At P f N R (k := k) e H := h1 h2
theorem ones_one (v : Value) (h : v.oneCell' = true) : ones [v] = true := by simp [ones, h]
/-- blocks that read so -/
def Bks : List (Nat × List Value) → Heap → Prop
  | [], _ => True
  | (b, c) :: r, H => Blk H b c ∧ Bks r H
theorem Bks.cons {b : Nat} {c : List Value} {r : List (Nat × List Value)} {H : Heap} (h : Blk H b c) (hr : Bks r H) : Bks ((b, c) :: r) H := ⟨h, hr⟩
theorem Bks.hd {b : Nat} {c : List Value} {r : List (Nat × List Value)} {H : Heap} (h : Bks ((b, c) :: r) H) : Blk H b c := h.1
theorem Bks.tl {b : Nat} {c : List Value} {r : List (Nat × List Value)} {H : Heap} (h : Bks ((b, c) :: r) H) : Bks r H := h.2
theorem Bks.nil {H : Heap} : Bks [] H := trivial
/-- A region whose order is drawn: what its loads need is told by blocks. -/
theorem At.drawE {P : Program} {f : FuncId} {N : Nat} {R : Value → Heap → Prop} {k : List Item} {e : Env} {H : Heap} {ops : Array Oper} {k' : List Item} {m : Nat} {l : List (Nat × List Value)} (h0 : Bks l H) (fs : List Nat) (hm : P.follows .mixedOrders = true) (hh : hd 60 k = .region ops true k') (hi : ops.size = m)
    (h : RegD P ops N (Bks l) fs m (Array.replicate m false) (fun e' H' => At P f N R (k := k') e' H') e H) : At P f N R (k := k) e H := At.draw (Bks l) fs hm hh hi h
end Go.Fx
