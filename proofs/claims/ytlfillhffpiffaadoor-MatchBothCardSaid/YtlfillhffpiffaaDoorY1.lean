/-
  Parts of the proof, 1.
-/
import Derived.OrdersHeld
import Derived.WalkKit
import Derived.Laws.AppendOwn
import Derived.Laws.StructEq
import Derived.Maps.AppendAt
import Derived.Laws.OwnMore
import Derived.ProofKit
import Derived.OpenShut
import Derived.ShutString
import Derived.ChangeOld
import Derived.Below
import Derived.SizedLaws
import Derived.Carry
namespace Go.Fx
set_option linter.unusedSimpArgs false
set_option linter.unusedVariables false
open Go

abbrev Heap := Array Obj
abbrev Env := List (Nat × Value)

def mk (w : World) (H : Heap) (n : Nat) : World := { w with heap := H, drawn := n }
@[simp] theorem mk_heap (w : World) (H : Heap) (n : Nat) : (mk w H n).heap = H := rfl
theorem mk_self (w : World) : mk w w.heap w.drawn = w := rfl

def lk : Env → Nat → Option Value
  | [], _ => none
  | (i, v) :: e, j => match Nat.beq i j with | true => some v | false => lk e j

def ev (e : Env) : Operand → Option Value
  | .tmp t => lk e t
  | .const v => some v
  | .global g => some (.pointer (some ⟨g, 0, none⟩))
  | .func f => some (.func (.func f) #[] #[])

def evs (e : Env) : List Operand → Option (List Value)
  | [] => some []
  | x :: xs => match ev e x, evs e xs with
    | some v, some vs => some (v :: vs)
    | _, _ => none

def up (d : Option Tmp) (v : Value) (e : Env) : Env := match d with | none => e | some d => (d, v) :: e

def Ag (e : Env) (tm : Array Value) : Prop := ∀ i v, lk e i = some v → tm[i]? = some v

theorem Ag.nil (tm : Array Value) : Ag [] tm := fun _ _ h => by cases h

theorem Ag.ev {e : Env} {a : Act} (h : Ag e a.tmps) {x : Operand} {v : Value} (hx : ev e x = some v) : a.eval x = v := by
  cases x with
  | tmp t =>
    have := h t v hx
    simp only [Act.eval, Array.getD_eq_getD_getElem?, this, Option.getD_some]
  | const c => simpa [Fx.ev, Act.eval] using hx
  | global g => simpa [Fx.ev, Act.eval] using hx
  | func f => simpa [Fx.ev, Act.eval] using hx

theorem Ag.evs {e : Env} {a : Act} (h : Ag e a.tmps) : ∀ {xs : List Operand} {vs : List Value}, evs e xs = some vs → xs.map a.eval = vs
  | [], vs, hx => by simpa [Fx.evs] using hx
  | x :: xs, vs, hx => by
    simp only [Fx.evs] at hx
    split at hx
    · rename_i v vs' h1 h2
      cases hx
      rw [List.map_cons, h.ev h1, h.evs h2]
    · cases hx

def okd (d : Option Tmp) (N : Nat) : Bool := match d with | none => true | some d => Nat.blt d N

theorem Ag.put {e : Env} {a : Act} {N : Nat} (h : Ag e a.tmps) (hN : a.tmps.size = N) {d : Option Tmp} (hd : okd d N = true) (v : Value) :
    Ag (up d v e) (a.put d v).tmps := by
  cases d with
  | none => exact h
  | some d =>
    intro i u hu
    have hd' : d < a.tmps.size := by rw [hN]; simpa [okd, Nat.blt_eq] using hd
    simp only [up, lk] at hu
    simp only [Act.put]
    split at hu
    · rename_i hb
      have : d = i := by simpa using hb
      subst this
      cases hu
      simp [hd']
    · rename_i hb
      have hne : d ≠ i := by
        intro hh; subst hh; simp at hb
      have := h i u hu
      rw [Array.getElem?_setIfInBounds]
      simp [hne, this]

theorem size_put (a : Act) (d : Option Tmp) (v : Value) : (a.put d v).tmps.size = a.tmps.size := by
  cases d <;> simp [Act.put]
theorem defers_put (a : Act) (d : Option Tmp) (v : Value) : (a.put d v).defers = a.defers := by
  cases d <;> simp [Act.put]

def Sub : Env → Env → Prop
  | [], _ => True
  | (i, v) :: s, b => lk b i = some v ∧ Sub s b

theorem Ag.sub : ∀ {s b : Env} {tm : Array Value}, Sub s b → Ag b tm → Ag s tm
  | [], _, _, _, _ => Ag.nil _
  | (i, v) :: s, b, tm, hs, h => by
    intro j u hu
    simp only [lk] at hu
    split at hu
    · rename_i hb
      have : i = j := by simpa using hb
      subst this; cases hu
      exact h _ _ hs.1
    · exact Ag.sub hs.2 h j u hu


def QK (N : Nat) (w0 : World) (K : Env → Heap → Prop) : Exit → Act → World → Prop
  | .normal, a, w => a.defers = [] ∧ a.tmps.size = N ∧ ∃ e H n, w = mk w0 H n ∧ Ag e a.tmps ∧ K e H
  | _, _, _ => False

def Does (P : Program) (o : Oper) (e : Env) (H : Heap) (C : Value → Heap → Prop) : Prop :=
  ∀ (w0 : World) (n : Nat) (a : Act), Ag e a.tmps → ∀ (K : Act → World → Prop) (Q : Exit → Act → World → Prop),
    (∀ v H' n', C v H' → K (a.put o.dst v) (mk w0 H' n')) → o.wp P a (mk w0 H n) K Q

def Pur (P : Program) (o : Oper) (e : Env) (v : Value) : Prop :=
  ∀ (a : Act) (w : World), Ag e a.tmps → (execOp a.eval o).run P w = .ok (.value v) w

def Lod (P : Program) (o : Oper) (e : Env) (H : Heap) (v : Value) : Prop :=
  ∀ (a : Act) (w : World), w.heap = H → Ag e a.tmps → (execOp a.eval o).run P w = .ok (.value v) w

theorem Pur.lod {P : Program} {o : Oper} {e : Env} {v : Value} (h : Pur P o e v) (H : Heap) : Lod P o e H v := fun a w _ hA => h a w hA

theorem Lod.does {P : Program} {o : Oper} {e : Env} {H : Heap} {v : Value} (h : Lod P o e H v) : Does P o e H (fun v' H' => v' = v ∧ H' = H) := by
  intro w0 n a hA K Q hK
  unfold Oper.wp
  rw [h a (mk w0 H n) rfl hA]
  exact hK v H n ⟨rfl, rfl⟩

theorem Does.mono {P : Program} {o : Oper} {e : Env} {H : Heap} {C C' : Value → Heap → Prop} (h : Does P o e H C) (hc : ∀ v H', C v H' → C' v H') : Does P o e H C' :=
  fun w0 n a hA K Q hK => h w0 n a hA K Q fun v H' n' hC => hK v H' n' (hc v H' hC)

def Reg (P : Program) (ops : Array Oper) (N : Nat) (is : List Nat) (K : Env → Heap → Prop) (e : Env) (H : Heap) : Prop :=
  ∀ (w0 : World) (n : Nat) (a : Act), a.defers = [] → a.tmps.size = N → Ag e a.tmps → wpOps P ops (QK N w0 K) is a (mk w0 H n)

theorem okd_some {o : Oper} {d N : Nat} (h : o.dst = some d) (hN : Nat.blt d N = true) : okd o.dst N = true := by rw [h]; exact hN
theorem up_some {o : Oper} {d : Nat} (h : o.dst = some d) (v : Value) (e : Env) : up o.dst v e = (d, v) :: e := by rw [h]; rfl
theorem up_none {o : Oper} (h : o.dst = none) (v : Value) (e : Env) : up o.dst v e = e := by rw [h]; rfl
theorem okd_none {o : Oper} {N : Nat} (h : o.dst = none) : okd o.dst N = true := by rw [h]; rfl

section reg
variable {P : Program} {ops : Array Oper} {N : Nat} {is : List Nat} {K : Env → Heap → Prop} {e : Env} {H : Heap} {i t : Nat} {o : Oper}

theorem Reg.nil (h : K e H) : Reg P ops N [] K e H := fun _ n _ hd hs hA => ⟨hd, hs, e, H, n, rfl, hA, h⟩

theorem Reg.op' {C : Value → Heap → Prop} (ho : ops[i]? = some o) (hg : o.guard = none) (hd : okd o.dst N = true) (h : Does P o e H C)
    (hk : ∀ v H', C v H' → Reg P ops N is K (up o.dst v e) H') : Reg P ops N (i :: is) K e H := by
  intro w0 n a hdf hs hA
  simp only [wpOps, ho, Region.wanted, hg, if_true]
  exact .inl (h w0 n a hA _ _ fun v H' n' hC => hk v H' hC w0 n' _ (by rw [defers_put]; exact hdf) (by rw [size_put]; exact hs) (hA.put hs hd v))

theorem Reg.lod' {v : Value} (ho : ops[i]? = some o) (hg : o.guard = none) (hd : okd o.dst N = true) (h : Lod P o e H v)
    (hk : Reg P ops N is K (up o.dst v e) H) : Reg P ops N (i :: is) K e H :=
  Reg.op' ho hg hd h.does fun v' H' ⟨h1, h2⟩ => by subst h1; subst h2; exact hk

theorem Reg.pur' {v : Value} (ho : ops[i]? = some o) (hg : o.guard = none) (hd : okd o.dst N = true) (h : Pur P o e v)
    (hk : Reg P ops N is K (up o.dst v e) H) : Reg P ops N (i :: is) K e H := Reg.lod' ho hg hd (h.lod H) hk

theorem yielded_of {a : Act} (hA : Ag e a.tmps) {j d : Nat} {b : Bool} (hj : (ops[j]?).bind (·.dst) = some d) (hb : lk e d = some (.bool b)) :
    yielded ops a.tmps j = some b := by
  unfold yielded
  rw [hj]
  simp only [Option.bind_some, hA d _ hb]

theorem Reg.gop' {C : Value → Heap → Prop} {j d : Nat} {b : Bool} (ho : ops[i]? = some o) (hg : o.guard = some (j, b)) (hj : (ops[j]?).bind (·.dst) = some d) (hb : lk e d = some (.bool b))
    (hd : okd o.dst N = true) (h : Does P o e H C) (hk : ∀ v H', C v H' → Reg P ops N is K (up o.dst v e) H') : Reg P ops N (i :: is) K e H := by
  intro w0 n a hdf hs hA
  have hy := yielded_of (ops := ops) hA hj hb
  simp only [wpOps, ho, Region.wanted, hg, hy, beq_self_eq_true, if_true]
  exact .inl (h w0 n a hA _ _ fun v H' n' hC => hk v H' hC w0 n' _ (by rw [defers_put]; exact hdf) (by rw [size_put]; exact hs) (hA.put hs hd v))

theorem Reg.glod' {v : Value} {j d : Nat} {b : Bool} (ho : ops[i]? = some o) (hg : o.guard = some (j, b)) (hj : (ops[j]?).bind (·.dst) = some d) (hb : lk e d = some (.bool b))
    (hd : okd o.dst N = true) (h : Lod P o e H v) (hk : Reg P ops N is K (up o.dst v e) H) : Reg P ops N (i :: is) K e H :=
  Reg.gop' ho hg hj hb hd h.does fun v' H' ⟨h1, h2⟩ => by subst h1; subst h2; exact hk

theorem Reg.gpur' {v : Value} {j d : Nat} {b : Bool} (ho : ops[i]? = some o) (hg : o.guard = some (j, b)) (hj : (ops[j]?).bind (·.dst) = some d) (hb : lk e d = some (.bool b))
    (hd : okd o.dst N = true) (h : Pur P o e v) (hk : Reg P ops N is K (up o.dst v e) H) : Reg P ops N (i :: is) K e H := Reg.glod' ho hg hj hb hd (h.lod H) hk

theorem Reg.skip' {j d : Nat} {b b' : Bool} (ho : ops[i]? = some o) (hg : o.guard = some (j, b)) (hj : (ops[j]?).bind (·.dst) = some d) (hb : lk e d = some (.bool b')) (hne : (b' == b) = false)
    (hd : okd o.dst N = true) (hk : Reg P ops N is K (up o.dst undef e) H) : Reg P ops N (i :: is) K e H := by
  intro w0 n a hdf hs hA
  have hy := yielded_of (ops := ops) hA hj hb
  have hw : Region.wanted o (yielded ops a.tmps) = false := by
    simp only [Region.wanted, hg, hy]
    cases b <;> cases b' <;> simp_all
  simp only [wpOps, ho, hw]
  exact hk w0 n _ (by rw [defers_put]; exact hdf) (by rw [size_put]; exact hs) (hA.put hs hd undef)
end reg


def wpF (P : Program) (ops : Array Oper) (Q : Exit → Act → World → Prop) (S : World → Prop) (F : Nat → Bool) : Nat → Array Bool → Act → World → Prop
  | 0, ls, a, w => Region.ready .any ops ls = [] ∧ Q .normal a w
  | fuel + 1, ls, a, w => (Region.ready .any ops ls = [] → Q .normal a w) ∧
    ∀ i ∈ Region.ready .any ops ls, wpOp P ops Q i (fun a' w' => (F i = false → S w → S w') ∧ wpF P ops Q S F fuel (ls.setIfInBounds i true) a' w') a w

section drawn
variable {P : Program} {ops : Array Oper} {Q : Exit → Act → World → Prop} {S : World → Prop} {F : Nat → Bool}

theorem wpF.any : ∀ (fuel : Nat) (ls : Array Bool) (a : Act) (w : World), wpF P ops Q S F fuel ls a w → wpAny P .any ops Q fuel ls a w
  | 0, _, _, _, h => h
  | fuel + 1, _, _, _, h => ⟨h.1, fun i hi => wpOp_mono (fun a' w' h' => wpF.any fuel _ a' w' h'.2) (h.2 i hi)⟩

def waits (ops : Array Oper) (j i : Nat) : Bool := match ops[j]? with
  | some o => o.after.any fun e => Region.binds .any e && e.on == i
  | none => false

theorem wpF.first {i : Nat} {oi : Oper} {v : Value} (hi : ops[i]? = some oi) (hsel : ∀ (j : Nat) (o : Oper) cs b, ops[j]? = some o → o.op ≠ .select cs b)
    (hQ : ∀ c a w, Q (.panic c) (a.put oi.dst v) w → Q (.panic c) a w) (T : World → Prop) (hT : (∀ w, T w) ∨ (T = S ∧ ∀ j, F j = true → waits ops j i = true)) :
    ∀ (fuel : Nat) (ls : Array Bool) (a : Act) (w : World),
      (∀ j oj, ops[j]? = some oj → j ≠ i → ls.getD j true = false → (∀ e ∈ oj.after, Region.binds .any e = true → e.on ≠ i) → oi.apart ops oj = true) →
      i ∈ Region.ready .any ops ls → YieldsIf P ops T oi v a → T w →
      wpF P ops Q S F fuel (ls.setIfInBounds i true) (a.put oi.dst v) w → wpF P ops Q S F (fuel + 1) ls a w := by
  intro fuel
  induction fuel with
  | zero =>
    intro ls a w _ hr hy hTw H
    refine ⟨fun h => (by rw [h] at hr; cases hr), fun j hj => ?_⟩
    by_cases hji : j = i
    · subst hji; exact hy.wpOp hi hTw ⟨fun _ h => h, H⟩
    · have := ready_mono hj hji
      rw [H.1] at this
      cases this
  | succ fuel ih =>
    intro ls a w hfree hr hy hTw H
    refine ⟨fun h => (by rw [h] at hr; cases hr), fun j hj => ?_⟩
    by_cases hji : j = i
    · subst hji; exact hy.wpOp hi hTw ⟨fun _ h => h, H⟩
    · have h1 := H.2 j (ready_mono hj hji)
      obtain ⟨hjun, oj, hoj, hall⟩ := mem_ready.1 hj
      have hnot : ∀ e ∈ oj.after, Region.binds .any e = true → e.on ≠ i := fun e he hb heq => by
        have h1 := hall e he hb
        have h0 := (mem_ready.1 hr).1
        rw [heq] at h1
        rcases Nat.lt_or_ge i ls.size with h' | h'
        · simp [h'] at h0 h1; rw [h0] at h1; cases h1
        · simp [Array.getElem?_eq_none h'] at h1
      have h2 := wpOp_putIf hoj (hfree j oj hoj hji hjun hnot) (fun cs b => hsel i oi cs b hi) (fun cs b => hsel j oj cs b hoj) hQ hy h1
      have hfree' : ∀ k ok, ops[k]? = some ok → k ≠ i → (ls.setIfInBounds j true).getD k true = false →
          (∀ e ∈ ok.after, Region.binds .any e = true → e.on ≠ i) → oi.apart ops ok = true := fun k ok hk hki hun hno => by
        refine hfree k ok hk hki ?_ hno
        by_cases hjk : j = k
        · subst hjk; exact hjun
        · rw [getD_set_ne true hjk] at hun; exact hun
      refine wpOp_mono (fun a' w' h3 => ⟨h3.2.1, ih (ls.setIfInBounds j true) a' w' hfree' (ready_mono hr (Ne.symm hji)) h3.1 ?_ ?_⟩) h2
      · rcases hT with hT | ⟨rfl, hT⟩
        · exact hT w'
        · refine h3.2.1 ?_ hTw
          cases hF : F j with
          | false => rfl
          | true =>
            have := hT j hF
            simp only [waits, hoj, Array.any_eq_true, Bool.and_eq_true, beq_iff_eq] at this
            obtain ⟨k, hk, hb, he⟩ := this
            exact (hnot _ (Array.getElem_mem hk) hb he).elim
      · rw [Array.setIfInBounds_comm _ _ hji]
        exact h3.2.2

theorem wpF.done {ls : Array Bool} {a : Act} {w : World} (hr : Region.ready .any ops ls = []) (h : Q .normal a w) : ∀ fuel, wpF P ops Q S F fuel ls a w
  | 0 => ⟨hr, h⟩
  | _ + 1 => ⟨fun _ => h, by rw [hr]; simp⟩
end drawn

def RegD (P : Program) (ops : Array Oper) (N : Nat) (S : Heap → Prop) (fs : List Nat) (fuel : Nat) (ls : Array Bool) (K : Env → Heap → Prop) (e : Env) (H : Heap) : Prop :=
  ∀ (w0 : World) (n : Nat) (a : Act), a.defers = [] → a.tmps.size = N → Ag e a.tmps →
    wpF P ops (QK N w0 K) (fun w => S w.heap) (fun i => fs.contains i) fuel ls a (mk w0 H n)

section regD
variable {P : Program} {ops : Array Oper} {N : Nat} {S : Heap → Prop} {fs : List Nat} {fuel : Nat} {ls : Array Bool} {K : Env → Heap → Prop} {e : Env} {H : Heap} {i t : Nat} {o : Oper} {C : Value → Heap → Prop} {v : Value} {j d : Nat} {b b' : Bool}

theorem RegD.done (hr : (Region.ready .any ops ls).isEmpty = true) (h : K e H) : RegD P ops N S fs fuel ls K e H :=
  fun w0 n a hd hs hA => wpF.done (by simpa using hr) ⟨hd, hs, e, H, n, rfl, hA, h⟩ fuel

def plan (ops : Array Oper) (ls : Array Bool) (i : Nat) : Bool :=
  Region.noSelect ops && Region.free .any ops ls i && (Region.ready .any ops ls).contains i
def planL (ops : Array Oper) (fs : List Nat) (ls : Array Bool) (i : Nat) : Bool := plan ops ls i && fs.all fun j => waits ops j i

theorem RegD.raw (T : World → Prop) (hT : (∀ w, T w) ∨ (T = (fun w => S w.heap) ∧ ∀ j, fs.contains j = true → waits ops j i = true)) (ho : ops[i]? = some o) (hd : o.dst = some t) (hN : Nat.blt t N = true) (hp : plan ops ls i = true)
    (hTw : ∀ w, w.heap = H → T w) (hy : ∀ a : Act, Ag e a.tmps → YieldsIf P ops T o v a) (hk : RegD P ops N S fs fuel (ls.setIfInBounds i true) K ((t, v) :: e) H) : RegD P ops N S fs (fuel + 1) ls K e H := by
  intro w0 n a hdf hs hA
  simp only [plan, Bool.and_eq_true] at hp
  refine wpF.first ho (Region.noSelect_spec hp.1.1) (fun _ _ _ h => h.elim) T hT fuel ls a _ (Region.free_spec ho hp.1.2) (by simpa using hp.2) (hy a hA) (hTw _ rfl) ?_
  rw [← up_some hd v e] at hk
  exact hk w0 n _ (by rw [defers_put]; exact hdf) (by rw [size_put]; exact hs) (hA.put hs (okd_some hd hN) v)

theorem RegD.tpur (ho : ops[i]? = some o) (hg : o.guard = none) (hd : o.dst = some t) (hN : Nat.blt t N = true) (hp : plan ops ls i = true) (h : Pur P o e v) (hk : RegD P ops N S fs fuel (ls.setIfInBounds i true) K ((t, v) :: e) H) : RegD P ops N S fs (fuel + 1) ls K e H :=
  RegD.raw (fun _ => True) (.inl fun _ => trivial) ho hd hN hp (fun _ _ => trivial) (fun a hA => .inl ⟨by simp [Region.wanted, hg], fun w _ => h a w hA⟩) hk
theorem RegD.gtpur (ho : ops[i]? = some o) (hg : o.guard = some (j, b)) (hj : (ops[j]?).bind (·.dst) = some d) (hb : lk e d = some (.bool b)) (hd : o.dst = some t) (hN : Nat.blt t N = true) (hp : plan ops ls i = true) (h : Pur P o e v) (hk : RegD P ops N S fs fuel (ls.setIfInBounds i true) K ((t, v) :: e) H) : RegD P ops N S fs (fuel + 1) ls K e H :=
  RegD.raw (fun _ => True) (.inl fun _ => trivial) ho hd hN hp (fun _ _ => trivial) (fun a hA => .inl ⟨by have hy := yielded_of (ops := ops) hA hj hb; simp [Region.wanted, hg, hy], fun w _ => h a w hA⟩) hk
theorem RegD.skip (ho : ops[i]? = some o) (hg : o.guard = some (j, b)) (hj : (ops[j]?).bind (·.dst) = some d) (hb : lk e d = some (.bool b')) (hne : (b' == b) = false) (hd : o.dst = some t) (hN : Nat.blt t N = true) (hp : plan ops ls i = true) (hk : RegD P ops N S fs fuel (ls.setIfInBounds i true) K ((t, undef) :: e) H) : RegD P ops N S fs (fuel + 1) ls K e H :=
  RegD.raw (fun _ => True) (.inl fun _ => trivial) ho hd hN hp (fun _ _ => trivial) (fun a hA => .inr ⟨by
    have hy := yielded_of (ops := ops) hA hj hb
    simp only [Region.wanted, hg, hy]
    cases b <;> cases b' <;> simp_all, rfl⟩) hk
theorem planL_spec (hp : planL ops fs ls i = true) : plan ops ls i = true ∧ ∀ j, fs.contains j = true → waits ops j i = true := by
  simp only [planL, Bool.and_eq_true, List.all_eq_true] at hp
  exact ⟨hp.1, fun j hj => hp.2 j (by simpa using hj)⟩
theorem RegD.take (ho : ops[i]? = some o) (hg : o.guard = none) (hd : o.dst = some t) (hN : Nat.blt t N = true) (hp : planL ops fs ls i = true) (hS : S H) (h : ∀ H, S H → Lod P o e H v) (hk : RegD P ops N S fs fuel (ls.setIfInBounds i true) K ((t, v) :: e) H) : RegD P ops N S fs (fuel + 1) ls K e H :=
  RegD.raw (fun w => S w.heap) (.inr ⟨rfl, (planL_spec hp).2⟩) ho hd hN (planL_spec hp).1 (fun w hw => by rw [hw]; exact hS) (fun a hA => .inl ⟨by simp [Region.wanted, hg], fun w hw => h w.heap hw a w rfl hA⟩) hk
theorem RegD.gtake (ho : ops[i]? = some o) (hg : o.guard = some (j, b)) (hj : (ops[j]?).bind (·.dst) = some d) (hb : lk e d = some (.bool b)) (hd : o.dst = some t) (hN : Nat.blt t N = true) (hp : planL ops fs ls i = true) (hS : S H) (h : ∀ H, S H → Lod P o e H v) (hk : RegD P ops N S fs fuel (ls.setIfInBounds i true) K ((t, v) :: e) H) : RegD P ops N S fs (fuel + 1) ls K e H :=
  RegD.raw (fun w => S w.heap) (.inr ⟨rfl, (planL_spec hp).2⟩) ho hd hN (planL_spec hp).1 (fun w hw => by rw [hw]; exact hS) (fun a hA => .inl ⟨by have hy := yielded_of (ops := ops) hA hj hb; simp [Region.wanted, hg, hy], fun w hw => h w.heap hw a w rfl hA⟩) hk

theorem RegD.one' (hr : (Region.ready .any ops ls == [i]) = true) (ho : ops[i]? = some o) (hw : ∀ a : Act, Ag e a.tmps → Region.wanted o (yielded ops a.tmps) = true) (hd : okd o.dst N = true) (h : Does P o e H C)
    (hk : ∀ v H', C v H' → (fs.contains i = false → S H → S H') ∧ RegD P ops N S fs fuel (ls.setIfInBounds i true) K (up o.dst v e) H') : RegD P ops N S fs (fuel + 1) ls K e H := by
  intro w0 n a hdf hs hA
  have hr' : Region.ready .any ops ls = [i] := by simpa using hr
  refine ⟨fun h0 => (by rw [hr'] at h0; cases h0), fun j hj => ?_⟩
  rw [hr'] at hj
  obtain rfl : j = i := by simpa using hj
  simp only [wpOp, ho, hw a hA, if_true]
  exact .inl (h w0 n a hA _ _ fun v H' n' hC => ⟨(hk v H' hC).1, (hk v H' hC).2 w0 n' _ (by rw [defers_put]; exact hdf) (by rw [size_put]; exact hs) (hA.put hs hd v)⟩)
theorem RegD.one (hr : (Region.ready .any ops ls == [i]) = true) (ho : ops[i]? = some o) (hg : o.guard = none) (hd : o.dst = some t) (hN : Nat.blt t N = true) (h : Does P o e H C) (hk : ∀ v H', C v H' → (fs.contains i = false → S H → S H') ∧ RegD P ops N S fs fuel (ls.setIfInBounds i true) K ((t, v) :: e) H') : RegD P ops N S fs (fuel + 1) ls K e H :=
  RegD.one' hr ho (fun a hA => by simp [Region.wanted, hg]) (okd_some hd hN) h fun v H' hC => by rw [up_some hd]; exact hk v H' hC
theorem RegD.one0 (hr : (Region.ready .any ops ls == [i]) = true) (ho : ops[i]? = some o) (hg : o.guard = none) (hd : o.dst = none) (h : Does P o e H C) (hk : ∀ v H', C v H' → (fs.contains i = false → S H → S H') ∧ RegD P ops N S fs fuel (ls.setIfInBounds i true) K e H') : RegD P ops N S fs (fuel + 1) ls K e H :=
  RegD.one' hr ho (fun a hA => by simp [Region.wanted, hg]) (okd_none hd) h fun v H' hC => by rw [up_none hd]; exact hk v H' hC
theorem RegD.gone (hr : (Region.ready .any ops ls == [i]) = true) (ho : ops[i]? = some o) (hg : o.guard = some (j, b)) (hj : (ops[j]?).bind (·.dst) = some d) (hb : lk e d = some (.bool b)) (hd : o.dst = some t) (hN : Nat.blt t N = true) (h : Does P o e H C) (hk : ∀ v H', C v H' → (fs.contains i = false → S H → S H') ∧ RegD P ops N S fs fuel (ls.setIfInBounds i true) K ((t, v) :: e) H') : RegD P ops N S fs (fuel + 1) ls K e H :=
  RegD.one' hr ho (fun a hA => by have hy := yielded_of (ops := ops) hA hj hb; simp [Region.wanted, hg, hy]) (okd_some hd hN) h fun v H' hC => by rw [up_some hd]; exact hk v H' hC
end regD

section neat
variable {P : Program} {ops : Array Oper} {N : Nat} {is : List Nat} {K : Env → Heap → Prop} {e : Env} {H : Heap} {i t : Nat} {o : Oper} {C : Value → Heap → Prop} {v : Value} {j d : Nat} {b b' : Bool}
theorem Reg.op (ho : ops[i]? = some o) (hg : o.guard = none) (hd : o.dst = some t) (hN : Nat.blt t N = true) (h : Does P o e H C) (hk : ∀ v H', C v H' → Reg P ops N is K ((t, v) :: e) H') : Reg P ops N (i :: is) K e H :=
  Reg.op' ho hg (okd_some hd hN) h fun v H' hC => by rw [up_some hd]; exact hk v H' hC
theorem Reg.op0 (ho : ops[i]? = some o) (hg : o.guard = none) (hd : o.dst = none) (h : Does P o e H C) (hk : ∀ v H', C v H' → Reg P ops N is K e H') : Reg P ops N (i :: is) K e H :=
  Reg.op' ho hg (okd_none hd) h fun v H' hC => by rw [up_none hd]; exact hk v H' hC
theorem Reg.lod (ho : ops[i]? = some o) (hg : o.guard = none) (hd : o.dst = some t) (hN : Nat.blt t N = true) (h : Lod P o e H v) (hk : Reg P ops N is K ((t, v) :: e) H) : Reg P ops N (i :: is) K e H :=
  Reg.lod' ho hg (okd_some hd hN) h (by rw [up_some hd]; exact hk)
theorem Reg.pur (ho : ops[i]? = some o) (hg : o.guard = none) (hd : o.dst = some t) (hN : Nat.blt t N = true) (h : Pur P o e v) (hk : Reg P ops N is K ((t, v) :: e) H) : Reg P ops N (i :: is) K e H :=
  Reg.pur' ho hg (okd_some hd hN) h (by rw [up_some hd]; exact hk)
theorem Reg.gop (ho : ops[i]? = some o) (hg : o.guard = some (j, b)) (hj : (ops[j]?).bind (·.dst) = some d) (hb : lk e d = some (.bool b)) (hd : o.dst = some t) (hN : Nat.blt t N = true) (h : Does P o e H C) (hk : ∀ v H', C v H' → Reg P ops N is K ((t, v) :: e) H') : Reg P ops N (i :: is) K e H :=
  Reg.gop' ho hg hj hb (okd_some hd hN) h fun v H' hC => by rw [up_some hd]; exact hk v H' hC
theorem Reg.glod (ho : ops[i]? = some o) (hg : o.guard = some (j, b)) (hj : (ops[j]?).bind (·.dst) = some d) (hb : lk e d = some (.bool b)) (hd : o.dst = some t) (hN : Nat.blt t N = true) (h : Lod P o e H v) (hk : Reg P ops N is K ((t, v) :: e) H) : Reg P ops N (i :: is) K e H :=
  Reg.glod' ho hg hj hb (okd_some hd hN) h (by rw [up_some hd]; exact hk)
theorem Reg.gpur (ho : ops[i]? = some o) (hg : o.guard = some (j, b)) (hj : (ops[j]?).bind (·.dst) = some d) (hb : lk e d = some (.bool b)) (hd : o.dst = some t) (hN : Nat.blt t N = true) (h : Pur P o e v) (hk : Reg P ops N is K ((t, v) :: e) H) : Reg P ops N (i :: is) K e H :=
  Reg.gpur' ho hg hj hb (okd_some hd hN) h (by rw [up_some hd]; exact hk)
theorem Reg.skip (ho : ops[i]? = some o) (hg : o.guard = some (j, b)) (hj : (ops[j]?).bind (·.dst) = some d) (hb : lk e d = some (.bool b')) (hne : (b' == b) = false) (hd : o.dst = some t) (hN : Nat.blt t N = true) (hk : Reg P ops N is K ((t, undef) :: e) H) : Reg P ops N (i :: is) K e H :=
  Reg.skip' ho hg hj hb hne (okd_some hd hN) (by rw [up_some hd]; exact hk)
end neat


def fb (f : FuncId) : Frame := { (default : Frame) with fn := f, kind := .normal }

def Fin (P : Program) (f : FuncId) (R : Value → Heap → Prop) (w0 : World) (m : Machine) (cs : List Frame) : Prop :=
  ∃ v H' n' fr, R v H' ∧ Steps P m (lone fr cs (mk w0 H' n')) ∧ fr.fn = f ∧ fr.leaving P (mk w0 H' n') (.returned v)

theorem Fin.steps {P : Program} {f : FuncId} {R : Value → Heap → Prop} {w0 : World} {m m' : Machine} {cs : List Frame} (h : Steps P m m') (h' : Fin P f R w0 m' cs) : Fin P f R w0 m cs := by
  obtain ⟨v, H', n', fr, hR, hs, r⟩ := h'
  exact ⟨v, H', n', fr, hR, h.trans hs, r⟩

def At (P : Program) (f : FuncId) (N : Nat) (R : Value → Heap → Prop) {k : List Item} (e : Env) (H : Heap) : Prop :=
  ∀ (w0 : World) (n : Nat) (a : Act) (cs : List Frame), a.defers = [] → a.tmps.size = N → Ag e a.tmps → Fin P f R w0 (lone ((fb f).at a k) cs (mk w0 H n)) cs

inductive Hd where
  | region (ops : Array Oper) (draw : Bool) (k : List Item)
  | cond (c : Operand) (x y : List Item)
  | head (c : Code) (k : List Item)
  | ret
  | fall
  | other

def hd : Nat → List Item → Hd
  | 0, _ => .other
  | _ + 1, [] => .fall
  | n + 1, .code c :: k => match c with
    | .skip => hd n k
    | .label _ => hd n k
    | .seq a b => hd n (.code a :: .code b :: k)
    | .region _ ops dr => .region ops dr k
    | .cond c x y => .cond c (.code x :: k) (.code y :: k)
    | .block id b => hd n (.code b :: .inBlock id :: k)
    | .loop b => .head b k
    | .exit id => match exitTo id k with
      | some k' => hd n k'
      | none => .other
    | .ret => .ret
    | _ => .other
  | n + 1, .inBlock _ :: k => hd n k
  | _ + 1, .inLoop c :: k => .head c k
  | _ + 1, _ => .other

section points
variable {P : Program} {f : FuncId} {N : Nat} {R : Value → Heap → Prop} {k : List Item} {e : Env} {H : Heap}

theorem At.step {k k' : List Item} (hs : ∀ (b : Frame) (a : Act) cs w, step P (lone (b.at a k) cs w) = .next (lone (b.at a k') cs w)) (h : At P f N R (k := k') e H) : At P f N R (k := k) e H :=
  fun w0 n a cs hd hz hA => (h w0 n a cs hd hz hA).steps (.one (hs _ _ _ _))

theorem At.sub {s : Env} (hs : Sub s e) (h : At P f N R (k := k) s H) : At P f N R (k := k) e H :=
  fun w0 n a cs hd hz hA => h w0 n a cs hd hz (hA.sub hs)

theorem At.region0 {id : Nat} {ops : Array Oper} (h : Reg P ops N (List.range ops.size) (fun e' H' => At P f N R (k := k) e' H') e H) :
    At P f N R (k := .code (.region id ops false) :: k) e H := by
  intro w0 n a cs hdf hs hA
  obtain ⟨x, a', w', hq, harr⟩ := wp_region (id := id) (h w0 n a hdf hs hA) (fb f) k cs
  cases x with
  | normal =>
    obtain ⟨hd', hs', e', H', n', rfl, hA', hK⟩ := hq
    exact (hK w0 n' a' cs hd' hs' hA').steps harr
  | _ => exact hq.elim

theorem At.draw0 {id : Nat} {ops : Array Oper} (S : Heap → Prop) (fs : List Nat) (hm : P.follows .mixedOrders = true)
    (h : RegD P ops N S fs ops.size (Array.replicate ops.size false) (fun e' H' => At P f N R (k := k) e' H') e H) :
    At P f N R (k := .code (.region id ops true) :: k) e H := by
  intro w0 n a cs hdf hs hA
  obtain ⟨x, a', w', hq, harr⟩ := wp_region_any (id := id) (ops := ops) (Q := QK N w0 fun e' H' => At P f N R (k := k) e' H') (a := a) (w := mk w0 H n) hm (wpF.any _ _ _ _ (h w0 (n + 1) a hdf hs hA)) (fb f) k cs
  cases x with
  | normal =>
    obtain ⟨hd', hs', e', H', n', rfl, hA', hK⟩ := hq
    exact (hK w0 n' a' cs hd' hs' hA').steps harr
  | _ => exact hq.elim

theorem At.cond0 {c : Operand} {x y : Code} {b : Bool} (hc : ev e c = some (.bool b)) (ht : b = true → At P f N R (k := .code x :: k) e H)
    (hf : b = false → At P f N R (k := .code y :: k) e H) : At P f N R (k := .code (.cond c x y) :: k) e H := by
  intro w0 n a cs hdf hs hA
  have he := hA.ev hc
  cases b with
  | true => exact (ht rfl w0 n a cs hdf hs hA).steps (.one (by simpa using step_cond (P := P) (b := fb f) (k := k) (cs := cs) (x := x) (y := y) he))
  | false => exact (hf rfl w0 n a cs hdf hs hA).steps (.one (by simpa using step_cond (P := P) (b := fb f) (k := k) (cs := cs) (x := x) (y := y) he))

def AtH (P : Program) (f : FuncId) (N : Nat) (R : Value → Heap → Prop) (e : Env) (H : Heap) : Hd → Prop
  | .region ops dr k => ∀ id, At P f N R (k := .code (.region id ops dr) :: k) e H
  | .cond c x y => ∃ b, ev e c = some (.bool b) ∧ (b = true → At P f N R (k := x) e H) ∧ (b = false → At P f N R (k := y) e H)
  | .head c k => At P f N R (k := .code c :: .inLoop c :: k) e H
  | .ret => ∀ k, At P f N R (k := .code .ret :: k) e H
  | .fall => At P f N R (k := []) e H
  | .other => False

theorem At.of_hd : ∀ (m : Nat) (k : List Item), AtH P f N R e H (hd m k) → At P f N R (k := k) e H
  | 0, _, h => h.elim
  | _ + 1, [], h => h
  | m + 1, .code c :: k, h => by
    cases c with
    | skip => exact At.step (fun _ _ _ _ => step_skip) (At.of_hd m k h)
    | label l => exact At.step (fun _ _ _ _ => step_label) (At.of_hd m k h)
    | seq a b => exact At.step (fun _ _ _ _ => step_seq) (At.of_hd m _ h)
    | region id ops dr => exact h id
    | cond c x y => obtain ⟨b, h1, h2, h3⟩ := h; exact At.cond0 h1 h2 h3
    | block id b => exact At.step (fun _ _ _ _ => step_block) (At.of_hd m _ h)
    | loop b => exact At.step (fun _ _ _ _ => step_loop) h
    | exit id =>
      simp only [hd] at h
      split at h
      · rename_i k' hk
        exact At.step (fun _ _ _ _ => step_exit hk) (At.of_hd m _ h)
      · exact h.elim
    | ret => exact h k
    | rangeFunc _ _ _ _ => exact h.elim
    | scope _ => exact h.elim
    | goto _ => exact h.elim
    | refuse _ => exact h.elim
  | m + 1, .inBlock id :: k, h => At.step (fun _ _ _ _ => step_inBlock) (At.of_hd m k h)
  | _ + 1, .inLoop c :: k, h => At.step (fun _ _ _ _ => step_inLoop) h
  | _ + 1, .inScope _ :: _, h => h.elim
  | _ + 1, .inRegion _ _ :: _, h => h.elim
  | _ + 1, .inRangeFunc _ :: _, h => h.elim
  | _ + 1, .endRangeFunc _ :: _, h => h.elim

theorem At.region {ops : Array Oper} {k' : List Item} {is : List Nat} (hh : hd 60 k = .region ops false k') (hi : List.range ops.size = is)
    (h : Reg P ops N is (fun e' H' => At P f N R (k := k') e' H') e H) : At P f N R (k := k) e H :=
  At.of_hd 60 k (by rw [hh]; exact fun id => At.region0 (by rw [hi]; exact h))

theorem At.draw {ops : Array Oper} {k' : List Item} {m : Nat} (S : Heap → Prop) (fs : List Nat) (hm : P.follows .mixedOrders = true) (hh : hd 60 k = .region ops true k') (hi : ops.size = m)
    (h : RegD P ops N S fs m (Array.replicate m false) (fun e' H' => At P f N R (k := k') e' H') e H) : At P f N R (k := k) e H :=
  At.of_hd 60 k (by rw [hh]; exact fun id => At.draw0 S fs hm (by rw [hi]; exact h))

theorem At.cond {c : Operand} {x y : List Item} {b : Bool} (hh : hd 60 k = .cond c x y) (hc : ev e c = some (.bool b)) (ht : b = true → At P f N R (k := x) e H)
    (hf : b = false → At P f N R (k := y) e H) : At P f N R (k := k) e H :=
  At.of_hd 60 k (by rw [hh]; exact ⟨b, hc, ht, hf⟩)

theorem At.loop {c : Code} {k' : List Item} {σ : Type} (st : σ → Env) (I : σ → Heap → Prop) (μ : σ → Nat) (x0 : σ) (hh : hd 60 k = .head c k') (hs : Sub (st x0) e) (h0 : I x0 H)
    (round : ∀ x H, I x H → (∀ x' H', I x' H' → μ x' < μ x → At P f N R (k := .inLoop c :: k') (st x') H') → At P f N R (k := .code c :: .inLoop c :: k') (st x) H) :
    At P f N R (k := k) e H := by
  have key : ∀ m x H, μ x = m → I x H → At P f N R (k := .code c :: .inLoop c :: k') (st x) H := by
    intro m
    induction m using Nat.strongRecOn with
    | _ m ih =>
      intro x H hm hI
      refine round x H hI fun x' H' hI' hlt => ?_
      exact At.step (fun _ _ _ _ => step_inLoop) (ih (μ x') (hm ▸ hlt) x' H' rfl hI')
  exact At.of_hd 60 k (by rw [hh]; exact At.sub hs (key _ x0 H rfl h0))

def rlist (e : Env) : List ResultVar → Option (List Value)
  | [] => some []
  | .tmp t :: r => match lk e t, rlist e r with
    | some v, some vs => some (v :: vs)
    | _, _ => none
  | .cell _ _ :: _ => none

def resv (e : Env) (rs : List ResultVar) : Option Value :=
  match rs with
  | [.tmp t] => lk e t
  | l => match l.length == 1 with
    | true => none
    | false => match rlist e l with
      | some vs => some (.tuple ⟨vs⟩)
      | none => none

def resM (tm : Array Value) : ResultVar → Sem Value
  | .tmp t => pure (tm.getD t undef)
  | .cell a t => do loadVar t (← asAddr (tm.getD a undef))
theorem results_eq (fn : Func) (tm : Array Value) : results fn tm = (do let vs ← fn.results.mapM (resM tm); pure (if h : vs.size = 1 then vs[0] else .tuple vs)) := rfl

theorem rlist_run {e : Env} {tm : Array Value} (hA : Ag e tm) (w : World) : ∀ {l : List ResultVar} {vs : List Value}, rlist e l = some vs →
    (l.mapM (resM tm)).run P w = .ok vs w
  | [], vs, h => by cases h; simp
  | .tmp t :: r, vs, h => by
    simp only [rlist] at h
    split at h
    · rename_i v vs' h1 h2
      cases h
      have h3 := rlist_run hA w h2
      have h4 : tm.getD t undef = v := by rw [Array.getD_eq_getD_getElem?, hA t v h1]; rfl
      rw [List.mapM_cons]
      simp only [resM, Sem.run_bind, Sem.run_pure, Result.andThen_ok, h3, h4]
    · cases h
  | .cell _ _ :: _, _, h => by cases h

theorem results_run {e : Env} {tm : Array Value} (hA : Ag e tm) (fn : Func) (w : World) {v : Value} (h : resv e fn.results.toList = some v) :
    (results fn tm).run P w = .ok v w := by
  rw [results_eq]
  have key : ∀ vs, rlist e fn.results.toList = some vs →
      (fn.results.mapM (resM tm)).run P w = .ok vs.toArray w := by
    intro vs hv
    have := rlist_run (P := P) hA w hv
    rw [Array.mapM_eq_mapM_toList]
    simp only [Sem.run_map, this, Result.andThen_ok]
  unfold resv at h
  split at h
  · rename_i t ht
    have h1 : rlist e fn.results.toList = some [v] := by rw [ht]; simp [rlist, h]
    rw [Sem.run_bind, key _ h1]
    simp
  · split at h
    · cases h
    · rename_i hl
      split at h
      · rename_i vs hv
        cases h
        have hlen : ∀ (l : List ResultVar) vs, rlist e l = some vs → vs.length = l.length := by
          intro l
          induction l with
          | nil => intro vs h; cases h; rfl
          | cons x l ih =>
            intro vs h
            cases x with
            | tmp t =>
              simp only [rlist] at h
              split at h
              · rename_i v vs' h1 h2; cases h; simp [ih _ h2]
              · cases h
            | cell a t => cases h
        have hl' := hlen _ _ hv
        rw [Sem.run_bind, key _ hv]
        have : vs.length ≠ 1 := by rw [hl']; simpa using hl
        simp [this]
      · cases h

theorem At.ret {fn : Func} {v : Value} (hh : hd 60 k = .ret) (hf : P.funcs[f]? = some fn) (hv : resv e fn.results.toList = some v) (hR : R v H) : At P f N R (k := k) e H := by
  have key : ∀ k, At P f N R (k := .code .ret :: k) e H := by
    intro k w0 n a cs hdf hs hA
    exact ⟨v, H, n, _, hR, .one step_ret, rfl, rfl, hdf, rfl, fn, hf, results_run hA fn _ hv⟩
  exact At.of_hd 60 k (by rw [hh]; exact key)


end points


structure Ret (P : Program) (f : FuncId) (args : List Value) (H : Heap) (R : Value → Heap → Prop) : Prop where
  call : ∀ (aS : Array Value) (w : World), (callFunc f aS).run P w = .ok (.enter f aS) w
  runs : ∀ (w0 : World) (n : Nat), Calls P f args.toArray (mk w0 H n) fun e w' => ∃ v H' n', e = .returned v ∧ w' = mk w0 H' n' ∧ R v H'

theorem Ret.mono {P : Program} {f : FuncId} {args : List Value} {H : Heap} {R R' : Value → Heap → Prop} (h : Ret P f args H R) (hr : ∀ v H', R v H' → R' v H') : Ret P f args H R' :=
  ⟨h.call, fun w0 n => (h.runs w0 n).mono fun _ _ ⟨v, H', n', a, b, c⟩ => ⟨v, H', n', a, b, hr _ _ c⟩⟩

def envl : Nat → List Value → Env
  | _, [] => []
  | i, v :: r => (i, v) :: envl (i + 1) r

theorem lk_envl : ∀ (vs : List Value) (i j : Nat) (v : Value), lk (envl i vs) j = some v → i ≤ j ∧ vs[j - i]? = some v
  | [], _, _, _, h => by cases h
  | u :: vs, i, j, v, h => by
    simp only [envl, lk] at h
    split at h
    · rename_i hb
      have : i = j := by simpa using hb
      subst this; cases h
      simp
    · rename_i hb
      have hne : i ≠ j := by intro hh; subst hh; simp at hb
      obtain ⟨h1, h2⟩ := lk_envl vs (i + 1) j v h
      refine ⟨by omega, ?_⟩
      rw [show j - i = (j - (i + 1)) + 1 from by omega]
      simpa using h2

theorem Ret.of_at {P : Program} {f : FuncId} {fn : Func} {c : Code} {args : List Value} {H : Heap} {R : Value → Heap → Prop} {N : Nat} {e : Env}
    (hcall : ∀ (aS : Array Value) (w : World), (callFunc f aS).run P w = .ok (.enter f aS) w) (hf : P.funcs[f]? = some fn) (hb : fn.body = some c)
    (hN : (args.length + (fn.ntmps - args.length)) = N) (he : envl 0 args = e) (h : At P f N R (k := [.code c]) e H) : Ret P f args H R := by
  refine ⟨hcall, fun w0 n cs => ?_⟩
  have hA : Ag e (args.toArray ++ Array.replicate (fn.ntmps - args.toArray.size) undef) := by
    subst he
    intro i v hv
    obtain ⟨_, h2⟩ := lk_envl args 0 i v hv
    have h3 : i < args.length := by
      rcases Nat.lt_or_ge i args.length with h | h
      · exact h
      · rw [List.getElem?_eq_none (by omega)] at h2; cases h2
    rw [Array.getElem?_append_left (by simpa using h3)]
    simpa using h2
  have henter : Frame.enter P f args.toArray .normal = (fb f).at { tmps := args.toArray ++ Array.replicate (fn.ntmps - args.toArray.size) undef, defers := [] } [.code c] := by
    simp [Frame.enter, Frame.at, hf, hb, fb]
  obtain ⟨v, H', n', fr, hR, hs, hfn, hl⟩ := h w0 n { tmps := args.toArray ++ Array.replicate (fn.ntmps - args.toArray.size) undef, defers := [] } cs rfl (by simp [← hN]) hA
  rw [← henter] at hs
  exact ⟨.returned v, Fx.mk w0 H' n', fr, ⟨v, H', n', rfl, rfl, hR⟩, hs, hfn, hl⟩

theorem Does.of_run {P : Program} {o : Oper} {e : Env} {H : Heap} {C : Value → Heap → Prop} {g : FuncId} {vs : List Value} (h : Ret P g vs H C)
    (hr : ∀ (a : Act) (w : World), Ag e a.tmps → (execOp a.eval o).run P w = .ok (.enter g vs.toArray) w) : Does P o e H C := by
  intro w0 n a hA K Q hK
  unfold Oper.wp
  rw [hr a _ hA]
  show Calls _ _ _ _ _
  refine (h.runs w0 n).mono fun x w' hx => ?_
  obtain ⟨v, H', n', rfl, rfl, hC⟩ := hx
  exact hK v H' n' hC

theorem Does.call {P : Program} {dst : Option Tmp} {g : FuncId} {xs : List Operand} {ats : Array TypeId} {ty : TypeId} {pos : String} {aft : Array Edge} {gd : Option (Nat × Bool)}
    {e : Env} {H : Heap} {C : Value → Heap → Prop} {vs : List Value} (hx : evs e xs = some vs) (h : Ret P g vs H C) :
    Does P ⟨dst, .call { callee := .value (.func g), args := xs.toArray, argTypes := ats }, ty, pos, aft, gd⟩ e H C :=
  Does.of_run h fun a w hA => by
    have h1 := hA.evs hx
    have h2 : Act.eval a (.func g) = .func (.func g) #[] #[] := rfl
    simp only [execOp, resolve, Sem.run_bind]
    simp [Deferred.ofValue, h2, invoke, h1, h.call]
end Go.Fx

namespace Go.Fx
set_option linter.unusedSimpArgs false
set_option linter.unusedVariables false
open Go


def Blk (H : Heap) (b : Nat) (c : List Value) : Prop := ∃ T fr, H[b]? = some (.cells c.toArray T fr)
def Own (H : Heap) (b : Nat) (c : List Value) : Prop := ∃ T, H[b]? = some (.cells c.toArray T (0, 0))
def Ext (H H' : Heap) : Prop := H.size ≤ H'.size ∧ ∀ b, b < H.size → H'[b]? = H[b]?
def But (S : Nat → Prop) (H H' : Heap) : Prop := H.size ≤ H'.size ∧ ∀ b, b < H.size → ¬ S b → H'[b]? = H[b]?
def New (H H' : Heap) (c : List Value) : Prop := ∃ T, H' = H.push (.cells c.toArray T (0, 0))
def Upd (H H' : Heap) (b : Nat) (c : List Value) : Prop := H'.size = H.size ∧ Own H' b c ∧ ∀ b', b' ≠ b → H'[b']? = H[b']?

theorem Own.blk {H : Heap} {b : Nat} {c : List Value} (h : Own H b c) : Blk H b c := let ⟨T, h⟩ := h; ⟨T, _, h⟩
theorem Blk.lt {H : Heap} {b : Nat} {c : List Value} (h : Blk H b c) : b < H.size := by
  obtain ⟨T, fr, h⟩ := h
  rcases Nat.lt_or_ge b H.size with h' | h'
  · exact h'
  · simp [Array.getElem?_eq_none h'] at h
theorem Own.lt {H : Heap} {b : Nat} {c : List Value} (h : Own H b c) : b < H.size := h.blk.lt
theorem Blk.inj {H : Heap} {b : Nat} {c c' : List Value} (h : Blk H b c) (h' : Blk H b c') : c = c' := by
  obtain ⟨T, fr, h⟩ := h
  obtain ⟨T', fr', h'⟩ := h'
  rw [h] at h'; simpa using (by injection h' with h'; injection h' : c.toArray = c'.toArray)

theorem Ext.refl (H : Heap) : Ext H H := ⟨Nat.le_refl _, fun _ _ => rfl⟩
theorem Ext.trans {A B C : Heap} (h : Ext A B) (k : Ext B C) : Ext A C :=
  ⟨Nat.le_trans h.1 k.1, fun b hb => (k.2 b (Nat.lt_of_lt_of_le hb h.1)).trans (h.2 b hb)⟩
theorem Ext.but {S : Nat → Prop} {H H' : Heap} (h : Ext H H') : But S H H' := ⟨h.1, fun b hb _ => h.2 b hb⟩
theorem But.refl (S : Nat → Prop) (H : Heap) : But S H H := (Ext.refl H).but
theorem But.trans {S : Nat → Prop} {A B C : Heap} (h : But S A B) (k : But S B C) : But S A C :=
  ⟨Nat.le_trans h.1 k.1, fun b hb hS => (k.2 b (Nat.lt_of_lt_of_le hb h.1) hS).trans (h.2 b hb hS)⟩
theorem But.mono {S S' : Nat → Prop} {H H' : Heap} (h : But S H H') (hs : ∀ b, b < H.size → S b → S' b) : But S' H H' :=
  ⟨h.1, fun b hb hS => h.2 b hb fun hb' => hS (hs b hb hb')⟩
theorem New.ext {H H' : Heap} {c : List Value} (h : New H H' c) : Ext H H' := by
  obtain ⟨T, rfl⟩ := h
  refine ⟨by simp, fun b hb => ?_⟩
  rw [Array.getElem?_push, if_neg (by omega)]
theorem New.own {H H' : Heap} {c : List Value} (h : New H H' c) : Own H' H.size c := by
  obtain ⟨T, rfl⟩ := h
  exact ⟨T, by simp⟩
theorem New.size {H H' : Heap} {c : List Value} (h : New H H' c) : H'.size = H.size + 1 := by
  obtain ⟨T, rfl⟩ := h
  simp
theorem Upd.but {H H' : Heap} {b : Nat} {c : List Value} (h : Upd H H' b c) : But (· = b) H H' := ⟨by rw [h.1]; exact Nat.le_refl _, fun b' _ hb => h.2.2 b' hb⟩
theorem Upd.own {H H' : Heap} {b : Nat} {c : List Value} (h : Upd H H' b c) : Own H' b c := h.2.1
theorem Blk.but {H H' : Heap} {b : Nat} {c : List Value} {S : Nat → Prop} (h : Blk H b c) (he : But S H H') (hb : ¬ S b) : Blk H' b c := by
  have hl := h.lt
  obtain ⟨T, fr, h⟩ := h
  exact ⟨T, fr, by rw [he.2 b hl hb]; exact h⟩
theorem Own.but {H H' : Heap} {b : Nat} {c : List Value} {S : Nat → Prop} (h : Own H b c) (he : But S H H') (hb : ¬ S b) : Own H' b c := by
  have hl := h.lt
  obtain ⟨T, h⟩ := h
  exact ⟨T, by rw [he.2 b hl hb]; exact h⟩
theorem Blk.ext {H H' : Heap} {b : Nat} {c : List Value} (h : Blk H b c) (he : Ext H H') : Blk H' b c := by
  have hl := h.lt
  obtain ⟨T, fr, h⟩ := h
  exact ⟨T, fr, by rw [he.2 b hl]; exact h⟩
theorem Own.ext {H H' : Heap} {b : Nat} {c : List Value} (h : Own H b c) (he : Ext H H') : Own H' b c := by
  have hl := h.lt
  obtain ⟨T, h⟩ := h
  exact ⟨T, by rw [he.2 b hl]; exact h⟩

theorem cell_blk {w : World} {H : Heap} (hw : w.heap = H) {b o : Nat} {c : List Value} (h : Blk H b c) : w.cell? ⟨b, o, none⟩ = c[o]? := by
  obtain ⟨T, fr, h⟩ := h
  simp only [World.cell?, hw, h]
  simp
theorem frozen_own {w : World} {H : Heap} (hw : w.heap = H) {b o : Nat} {c : List Value} (h : Own H b c) : w.frozen? ⟨b, o, none⟩ = false := by
  obtain ⟨T, h⟩ := h
  simp only [World.frozen?, hw, h]
  simp
theorem setCell_upd (w : World) (H : Heap) (n : Nat) {b o : Nat} {c : List Value} (v : Value) (h : Own H b c) :
    ∃ H', (mk w H n).setCell ⟨b, o, none⟩ v = mk w H' n ∧ Upd H H' b (c.set o v) := by
  obtain ⟨T, h⟩ := h
  refine ⟨_, rfl, ?_, ⟨T, ?_⟩, ?_⟩
  · simp [mk]
  · simp [mk, Array.getElem?_modify, h]
  · intro b' hb
    simp only [mk, Array.getElem?_modify]
    rw [if_neg (by omega)]

section rules
variable {P : Program} {dst : Option Tmp} {ty : TypeId} {pos : String} {aft : Array Edge} {gd : Option (Nat × Bool)} {e : Env} {H : Heap}

theorem Pur.mv {x : Operand} {v : Value} (hx : ev e x = some v) : Pur P ⟨dst, .move x, ty, pos, aft, gd⟩ e v :=
  fun a w hA => by simp [execOp, hA.ev hx]
theorem Pur.asg {x : Operand} {v : Value} (hx : ev e x = some v) : Pur P ⟨dst, .assign x, ty, pos, aft, gd⟩ e v :=
  fun a w hA => by simp [execOp, hA.ev hx]
theorem Pur.pickT {c x y : Operand} {v : Value} (hc : ev e c = some (.bool true)) (hx : ev e x = some v) : Pur P ⟨dst, .pick c x y, ty, pos, aft, gd⟩ e v :=
  fun a w hA => by simp [execOp, hA.ev hc, hA.ev hx, asBool]
theorem Pur.pickF {c x y : Operand} {v : Value} (hc : ev e c = some (.bool false)) (hy : ev e y = some v) : Pur P ⟨dst, .pick c x y, ty, pos, aft, gd⟩ e v :=
  fun a w hA => by simp [execOp, hA.ev hc, hA.ev hy, asBool]
theorem Pur.nilc {x : Operand} {p : Addr} (hx : ev e x = some (.pointer (some p))) : Pur P ⟨dst, .nilCheck x, ty, pos, aft, gd⟩ e (.pointer (some p)) :=
  fun a w hA => by simp [execOp, hA.ev hx]
theorem Pur.ext {x : Operand} {vs : Array Value} {i : Nat} {v : Value} (hx : ev e x = some (.tuple vs)) (hi : vs[i]? = some v) : Pur P ⟨dst, .extract x i, ty, pos, aft, gd⟩ e v :=
  fun a w hA => by simp [execOp, hA.ev hx, Instr.extract, hi]

section ints
variable {t t' : TypeId} {x y : Operand} {k : IntKind} {a b : Int}
theorem Pur.ibin {op : BinOp} {r : Value} (hx : ev e x = some (.int k a)) (hy : ev e y = some (.int k b)) (h : ∀ w, (binOp op t (.int k a) (.int k b)).run P w = .ok r w) :
    Pur P ⟨dst, .binOp op t x y t', ty, pos, aft, gd⟩ e r := by
  intro A w hA
  have e1 := hA.ev hx
  have e2 := hA.ev hy
  simp only [execOp, e1, e2, eqGuard_at_int, Sem.run_bind, Sem.run_pure, Result.andThen_ok, h]
theorem Pur.add (hx : ev e x = some (.int k a)) (hy : ev e y = some (.int k b)) : Pur P ⟨dst, .binOp .add t x y t', ty, pos, aft, gd⟩ e (.int k (k.wrap (a + b))) :=
  Pur.ibin hx hy fun w => by simp [go_sem, Op.intArith]
theorem Pur.sub (hx : ev e x = some (.int k a)) (hy : ev e y = some (.int k b)) : Pur P ⟨dst, .binOp .sub t x y t', ty, pos, aft, gd⟩ e (.int k (k.wrap (a - b))) :=
  Pur.ibin hx hy fun w => by simp [go_sem, Op.intArith]
theorem wrap_in {n : Int} (h : -9223372036854775808 ≤ n ∧ n ≤ 9223372036854775807) : IntKind.i64.wrap n = n := IntWalk.i64_in _ h
theorem Pur.add64 (hx : ev e x = some (.int .i64 a)) (hy : ev e y = some (.int .i64 b)) (h : -9223372036854775808 ≤ a + b ∧ a + b ≤ 9223372036854775807) :
    Pur P ⟨dst, .binOp .add t x y t', ty, pos, aft, gd⟩ e (.int .i64 (a + b)) := by
  have := Pur.add (P := P) (dst := dst) (ty := ty) (pos := pos) (aft := aft) (gd := gd) (t := t) (t' := t') hx hy
  rwa [wrap_in h] at this
theorem Pur.sub64 (hx : ev e x = some (.int .i64 a)) (hy : ev e y = some (.int .i64 b)) (h : -9223372036854775808 ≤ a - b ∧ a - b ≤ 9223372036854775807) :
    Pur P ⟨dst, .binOp .sub t x y t', ty, pos, aft, gd⟩ e (.int .i64 (a - b)) := by
  have := Pur.sub (P := P) (dst := dst) (ty := ty) (pos := pos) (aft := aft) (gd := gd) (t := t) (t' := t') hx hy
  rwa [wrap_in h] at this
theorem Pur.lss (hx : ev e x = some (.int k a)) (hy : ev e y = some (.int k b)) : Pur P ⟨dst, .binOp .lss t x y t', ty, pos, aft, gd⟩ e (.bool (decide (a < b))) :=
  Pur.ibin hx hy fun w => by simp [go_sem]
theorem Pur.gtr (hx : ev e x = some (.int k a)) (hy : ev e y = some (.int k b)) : Pur P ⟨dst, .binOp .gtr t x y t', ty, pos, aft, gd⟩ e (.bool (decide (b < a))) :=
  Pur.ibin hx hy fun w => by simp [go_sem]
theorem Pur.geq (hx : ev e x = some (.int k a)) (hy : ev e y = some (.int k b)) : Pur P ⟨dst, .binOp .geq t x y t', ty, pos, aft, gd⟩ e (.bool (decide (b ≤ a))) :=
  Pur.ibin hx hy fun w => by simp [go_sem]
theorem Pur.eql (hx : ev e x = some (.int k a)) (hy : ev e y = some (.int k b)) : Pur P ⟨dst, .binOp .eql t x y t', ty, pos, aft, gd⟩ e (.bool (decide (a = b))) :=
  Pur.ibin hx hy fun w => by simp [go_sem]; rfl
theorem Pur.neq (hx : ev e x = some (.int k a)) (hy : ev e y = some (.int k b)) : Pur P ⟨dst, .binOp .neq t x y t', ty, pos, aft, gd⟩ e (.bool (decide (a ≠ b))) :=
  Pur.ibin hx hy fun w => by
    rw [binOp_neq, Sem.run_pure]
    congr 2
    by_cases h : a = b <;> simp [h]
end ints


def foff (P : Program) (s : TypeId) (f : Nat) : Option Nat :=
  match P.underlying s with
  | some (.struct fs) => match fs[f]? with
    | some fd => match P.info? fd.type with
      | some i => if i.size = 0 then none else some fd.offset
      | none => none
    | none => none
  | _ => none

theorem add_lit (b o n : Nat) : Addr.add ⟨b, o, none⟩ n = ⟨b, o + n, none⟩ := by
  unfold Addr.add; split
  · rename_i h; subst h; rfl
  · rfl

theorem run_sizeOf' {t : TypeId} {i : TypeInfo} (h : P.info? t = some i) (w : World) : (sizeOf t).run P w = .ok i.size w := by
  simp [sizeOf, typeInfo, h]

theorem fieldAt_run {s : TypeId} {f k : Nat} (hf : foff P s f = some k) (b o : Nat) (w : World) :
    (Instr.fieldAt s (.pointer (some ⟨b, o, none⟩)) f).run P w = .ok (.pointer (some ⟨b, o + k, none⟩)) w := by
  unfold foff at hf
  split at hf
  · rename_i fs hu
    split at hf
    · rename_i fd hfd
      split at hf
      · rename_i i hi
        split at hf
        · cases hf
        · rename_i hsz
          cases hf
          simp [Instr.fieldAt, run_underlying hu, hfd, Instr.sureAddr, fieldPlace, run_sizeOf' hi, hsz, add_lit]
      · cases hf
    · cases hf
  · cases hf

theorem Pur.fld {s : TypeId} {x : Operand} {f b o : Nat} (k : Nat) (hf : foff P s f = some k) (hx : ev e x = some (.pointer (some ⟨b, o, none⟩))) :
    Pur P ⟨dst, .fieldAddr s x f, ty, pos, aft, gd⟩ e (.pointer (some ⟨b, o + k, none⟩)) :=
  fun A w hA => by simp [execOp, hA.ev hx, fieldAt_run hf]

def esz (P : Program) (t : TypeId) : Option Nat :=
  match P.underlying t with
  | some (.slice el) => (P.info? el).map (·.size)
  | _ => none

theorem indexAt_run {t : TypeId} {s : Nat} (hs : esz P t = some s) {b o l c : Nat} {i : Int} (h0 : 0 ≤ i) (h1 : i < l) (k : IntKind) (w : World) :
    (Instr.indexAt t (.slice (some ⟨b, o, none⟩) l c) (.int k i)).run P w = .ok (.pointer (some ⟨b, o + i.toNat * s, none⟩)) w := by
  unfold esz at hs
  split at hs
  · rename_i el hu
    simp only [Option.map_eq_some_iff] at hs
    obtain ⟨inf, hi, rfl⟩ := hs
    simp [Instr.indexAt, asIntOf, run_underlying hu, h0, h1, run_sizeOf' hi, add_lit]
  · cases hs

theorem Pur.idx {t : TypeId} {x y : Operand} {b o l c : Nat} {k : IntKind} {i : Int} (s : Nat) (hs : esz P t = some s) (hx : ev e x = some (.slice (some ⟨b, o, none⟩) l c))
    (hy : ev e y = some (.int k i)) (h0 : 0 ≤ i) (h1 : i < l) : Pur P ⟨dst, .indexAddr t x y, ty, pos, aft, gd⟩ e (.pointer (some ⟨b, o + i.toNat * s, none⟩)) :=
  fun A w hA => by simp [execOp, hA.ev hx, hA.ev hy, indexAt_run hs h0 h1]

def sc (P : Program) (t : TypeId) : Bool :=
  match P.underlying t with
  | some (.struct _) => false
  | some (.array _ _) => false
  | some _ => match P.info? t with
    | some i => i.size == 1
    | none => false
  | none => false
def ag (P : Program) (t : TypeId) : Option Nat :=
  match P.underlying t with
  | some (.struct _) => (P.info? t).map (·.size)
  | some (.array _ _) => (P.info? t).map (·.size)
  | _ => none

theorem sc_isAgg {t : TypeId} (h : sc P t = true) (w : World) : (isAgg t).run P w = .ok false w := by
  unfold sc at h
  split at h
  · cases h
  · cases h
  · rename_i d h1 h2 hu
    simp only [isAgg, Sem.run_bind, run_underlying hu, Result.andThen_ok]; rfl
  · cases h
theorem sc_size {t : TypeId} (h : sc P t = true) (w : World) : (sizeOf t).run P w = .ok 1 w := by
  unfold sc at h
  split at h
  · cases h
  · cases h
  · split at h
    · rename_i i hi
      simp at h
      simp [run_sizeOf' hi, h]
    · cases h
  · cases h
theorem ag_isAgg {t n : Nat} (h : ag P t = some n) (w : World) : (isAgg t).run P w = .ok true w := by
  unfold ag at h
  split at h
  · rename_i hu; simp [isAgg, run_underlying hu]
  · rename_i hu; simp [isAgg, run_underlying hu]
  · cases h
theorem ag_size {t n : Nat} (h : ag P t = some n) (w : World) : (sizeOf t).run P w = .ok n w := by
  unfold ag at h
  split at h
  · simp only [Option.map_eq_some_iff] at h
    obtain ⟨i, hi, rfl⟩ := h
    exact run_sizeOf' hi w
  · simp only [Option.map_eq_some_iff] at h
    obtain ⟨i, hi, rfl⟩ := h
    exact run_sizeOf' hi w
  · cases h


theorem loadVar1_run {t : TypeId} {b o : Nat} {c : List Value} {v : Value} (ht : sc P t = true) (hb : Blk H b c) (hc : c[o]? = some v) {w : World} (hw : w.heap = H) :
    (loadVar t ⟨b, o, none⟩).run P w = .ok v w := by
  simp only [loadVar, Sem.run_bind, sc_isAgg ht, Result.andThen_ok]
  simp [cell_blk hw hb, hc]

theorem loadCells_run {b o m : Nat} {c vs : List Value} (hb : Blk H b c) (hc : (c.drop o).take m = vs) (hl : vs.length = m) {w : World} (hw : w.heap = H) :
    (loadCells ⟨b, o, none⟩ m).run P w = .ok vs.toArray w := by
  subst hl
  refine run_loadCells_list (P := P) (w := w) ⟨b, o, none⟩ vs fun j v hj => ?_
  rw [add_lit, cell_blk hw hb]
  have : ((c.drop o).take vs.length)[j]? = some v := by rw [hc]; exact hj
  rw [List.getElem?_take] at this
  split at this
  · simpa using this
  · cases this

theorem loadVarN_run {t : TypeId} {b o m : Nat} {c vs : List Value} (ht : ag P t = some m) (hb : Blk H b c) (hc : (c.drop o).take m = vs) (hl : vs.length = m) {w : World} (hw : w.heap = H) :
    (loadVar t ⟨b, o, none⟩).run P w = .ok (.agg vs.toArray) w := by
  simp only [loadVar, Sem.run_bind, ag_isAgg ht, Result.andThen_ok, if_true, ag_size ht, loadCells_run hb hc hl hw, Sem.run_pure]

theorem Lod.ld {t : TypeId} {x : Operand} {b o : Nat} {c : List Value} {v : Value} (ht : sc P t = true) (hx : ev e x = some (.pointer (some ⟨b, o, none⟩))) (hb : Blk H b c) (hc : c[o]? = some v) :
    Lod P ⟨dst, .load t x, ty, pos, aft, gd⟩ e H v :=
  fun A w hw hA => by simp [execOp, hA.ev hx, Instr.loadAt, Instr.sureAddr, loadVar1_run ht hb hc hw]

theorem Lod.ldn {t : TypeId} {x : Operand} {b o m : Nat} {c vs : List Value} (ht : ag P t = some m) (hx : ev e x = some (.pointer (some ⟨b, o, none⟩))) (hb : Blk H b c) (hc : (c.drop o).take m = vs) (hl : vs.length = m) :
    Lod P ⟨dst, .load t x, ty, pos, aft, gd⟩ e H (.agg vs.toArray) :=
  fun A w hw hA => by simp [execOp, hA.ev hx, Instr.loadAt, Instr.sureAddr, loadVarN_run ht hb hc hl hw]


theorem storeCells_run (w0 : World) (n b : Nat) : ∀ (vs : List Value) (o i : Nat) (c : List Value) (H : Heap), Own H b c → o + i + vs.length ≤ c.length → (∀ v ∈ vs, v.oneCell' = true) →
    ∃ H', (storeCells ⟨b, o, none⟩ vs i).run P (mk w0 H n) = .ok () (mk w0 H' n) ∧ Upd H H' b (c.take (o + i) ++ vs ++ c.drop (o + i + vs.length))
  | [], o, i, c, H, h, _, _ => ⟨H, by simp [storeCells], rfl, by simpa using h, fun _ _ => rfl⟩
  | v :: vs, o, i, c, H, h, hl, h1 => by
    simp only [List.length_cons] at hl
    obtain ⟨H1, hs1, hu1⟩ := setCell_upd w0 H n (o := o + i) v h
    have hcell : (mk w0 H n).cell? ⟨b, o + i, none⟩ = some (c[o + i]'(by omega)) := by
      rw [cell_blk rfl h.blk, List.getElem?_eq_getElem]
    have hfr : (mk w0 H n).frozen? ⟨b, o + i, none⟩ = false := frozen_own rfl h
    obtain ⟨H2, hs2, hu2⟩ := storeCells_run w0 n b vs o (i + 1) (c.set (o + i) v) H1 hu1.own (by simp; omega) (fun u hu => h1 u (List.mem_cons_of_mem _ hu))
    refine ⟨H2, ?_, hu2.1.trans hu1.1, ?_, fun b' hb' => (hu2.2.2 b' hb').trans (hu1.2.2 b' hb')⟩
    · simp only [storeCells, Sem.run_bind, add_lit]
      rw [run_store P _ _ _ _ (h1 v List.mem_cons_self)]
      simp only [hcell, hfr, hs1]
      simpa using hs2
    · have := hu2.own
      have e1 : (c.set (o + i) v).take (o + (i + 1)) ++ vs ++ (c.set (o + i) v).drop (o + (i + 1) + vs.length) = c.take (o + i) ++ v :: vs ++ c.drop (o + i + (vs.length + 1)) := by
        rw [List.drop_set_of_lt (by omega)]
        rw [show o + (i + 1) = (o + i) + 1 from by omega, List.take_set, List.take_succ_eq_append_getElem (by omega)]
        rw [List.set_append_right _ _ (by simp; omega)]
        simp [show o + i - min (o + i) c.length = 0 from by omega, show o + i + 1 + vs.length = o + i + (vs.length + 1) from by omega]
      rw [e1] at this
      exact this

def ones (vs : List Value) : Bool := vs.all (·.oneCell')

theorem Does.st {t : TypeId} {x y : Operand} {b o : Nat} {c : List Value} {v : Value} (ht : sc P t = true) (hx : ev e x = some (.pointer (some ⟨b, o, none⟩))) (hy : ev e y = some v) (h1 : v.oneCell' = true)
    (hb : Own H b c) (ho : o < c.length) : Does P ⟨dst, .store t x y, ty, pos, aft, gd⟩ e H (fun _ H' => Upd H H' b (c.set o v)) := by
  intro w0 n a hA K Q hK
  obtain ⟨H1, hs1, hu1⟩ := setCell_upd w0 H n (o := o) v hb
  have hcell : (mk w0 H n).cell? ⟨b, o, none⟩ = some (c[o]) := by rw [cell_blk rfl hb.blk, List.getElem?_eq_getElem]
  have hfr : (mk w0 H n).frozen? ⟨b, o, none⟩ = false := frozen_own rfl hb
  have hcs : v.cells = #[v] := by cases v <;> first | rfl | cases h1
  have hrun : (execOp a.eval ⟨dst, .store t x y, ty, pos, aft, gd⟩).run P (mk w0 H n) = .ok .skip (mk w0 H1 n) := by
    simp only [execOp, hA.ev hx, hA.ev hy, Instr.storeAt, Instr.sureAddr, storeVar, Sem.run_bind, Sem.run_pure, Result.andThen_ok, sc_size ht, hcs]
    simp only [List.size_toArray, List.length_cons, List.length_nil, Nat.zero_add, ne_eq, not_true_eq_false, if_false, Sem.run_pure, storeCells, Sem.run_bind, add_lit, Nat.add_zero]
    rw [run_store P _ _ _ _ h1]
    simp [hcell, hfr, hs1]
  unfold Oper.wp
  rw [hrun]
  exact hK _ H1 n hu1

theorem Does.stn {t : TypeId} {x y : Operand} {b o m : Nat} {c vs : List Value} (ht : ag P t = some m) (hx : ev e x = some (.pointer (some ⟨b, o, none⟩))) (hy : ev e y = some (.agg vs.toArray)) (h1 : ones vs = true)
    (hl : vs.length = m) (hb : Own H b c) (ho : o + m ≤ c.length) : Does P ⟨dst, .store t x y, ty, pos, aft, gd⟩ e H (fun _ H' => Upd H H' b (c.take o ++ vs ++ c.drop (o + m))) := by
  intro w0 n a hA K Q hK
  subst hl
  obtain ⟨H1, hs1, hu1⟩ := storeCells_run (P := P) w0 n b vs o 0 c H hb (by omega) (fun v hv => by simp only [ones, List.all_eq_true] at h1; exact h1 v hv)
  have hrun : (execOp a.eval ⟨dst, .store t x y, ty, pos, aft, gd⟩).run P (mk w0 H n) = .ok .skip (mk w0 H1 n) := by
    simp only [execOp, hA.ev hx, hA.ev hy, Instr.storeAt, Instr.sureAddr, storeVar, Sem.run_bind, Sem.run_pure, Result.andThen_ok, ag_size ht, Value.cells]
    simp [hs1]
  unfold Oper.wp
  rw [hrun]
  exact hK _ H1 n (by simpa using hu1)

theorem newRow_run (w0 : World) (n : Nat) (t : TypeId) (c : List Value) : (newRow t c.toArray).run P (mk w0 H n) = .ok ⟨H.size, 0, none⟩ (mk w0 (H.push (.cells c.toArray t)) n) := by
  simp only [newRow, Sem.run_bind, run_newObj, Result.andThen_ok, Sem.run_pure]; rfl

theorem Does.box {t : TypeId} {x : Operand} {v : Value} {c : List Value} (hx : ev e x = some v) (hc : v.cells = c.toArray) :
    Does P ⟨dst, .box t x, ty, pos, aft, gd⟩ e H (fun u H' => u = .pointer (some ⟨H.size, 0, none⟩) ∧ New H H' c) := by
  intro w0 n a hA K Q hK
  unfold Oper.wp
  have hrun : (execOp a.eval ⟨dst, .box t x, ty, pos, aft, gd⟩).run P (mk w0 H n) = .ok (.value (.pointer (some ⟨H.size, 0, none⟩))) (mk w0 (H.push (.cells c.toArray t)) n) := by
    simp only [execOp, Instr.box, hA.ev hx, newVar, hc, Sem.run_bind, newRow_run, Result.andThen_ok, Sem.run_pure]
  rw [hrun]
  exact hK _ _ n ⟨rfl, t, rfl⟩

def zc (P : Program) (t : TypeId) : Option (List Value) := ((P.info? t).bind (·.zero)).map fun v => v.cells.toList

theorem zero_run {t : TypeId} {z : List Value} (hz : zc P t = some z) (w : World) : ∃ v : Value, v.cells = z.toArray ∧ (zeroValue t).run P w = .ok v w := by
  simp only [zc, Option.map_eq_some_iff, Option.bind_eq_some_iff] at hz
  obtain ⟨v, ⟨i, hi, hv⟩, rfl⟩ := hz
  exact ⟨v, by simp, by simp [zeroValue, typeInfo, hi, hv]⟩

theorem Does.alloc {t : TypeId} {z : List Value} (hz : zc P t = some z) :
    Does P ⟨dst, .alloc t, ty, pos, aft, gd⟩ e H (fun u H' => u = .pointer (some ⟨H.size, 0, none⟩) ∧ New H H' z) := by
  intro w0 n a hA K Q hK
  obtain ⟨v, hv, hr⟩ := zero_run hz (mk w0 H n)
  have hrun : (execOp a.eval ⟨dst, .alloc t, ty, pos, aft, gd⟩).run P (mk w0 H n) = .ok (.value (.pointer (some ⟨H.size, 0, none⟩))) (mk w0 (H.push (.cells z.toArray t)) n) := by
    simp only [execOp, Instr.alloc, Sem.run_bind, hr, Result.andThen_ok, newVar, hv, newRow_run, Sem.run_pure]
  unfold Oper.wp
  rw [hrun]
  exact hK _ _ n ⟨rfl, t, rfl⟩
end rules
end Go.Fx

namespace Go.Fx
set_option linter.unusedSimpArgs false
set_option linter.unusedVariables false
open Go

theorem Ag.dup {e : Env} {tm : Array Value} {d : Nat} {v : Value} (hv : lk e d = some v) (h : Ag e tm) : Ag ((d, v) :: e) tm := by
  intro i u hu
  simp only [lk] at hu
  split at hu
  · rename_i hb
    have : d = i := by simpa using hb
    subst this; cases hu
    exact h _ _ hv
  · exact h i u hu

theorem Reg.case {P : Program} {ops : Array Oper} {N : Nat} {is : List Nat} {K : Env → Heap → Prop} {e : Env} {H : Heap} {b : Bool} (d : Nat) (hb : lk e d = some (.bool b))
    (ht : b = true → Reg P ops N is K ((d, .bool true) :: e) H) (hf : b = false → Reg P ops N is K ((d, .bool false) :: e) H) : Reg P ops N is K e H := by
  intro w0 n a hd hs hA
  cases b with
  | true => exact ht rfl w0 n a hd hs (hA.dup hb)
  | false => exact hf rfl w0 n a hd hs (hA.dup hb)
theorem Reg.known {P : Program} {ops : Array Oper} {N : Nat} {is : List Nat} {K : Env → Heap → Prop} {e : Env} {H : Heap} {b b' : Bool} (d : Nat) (hb : lk e d = some (.bool b)) (h : b = b')
    (hk : Reg P ops N is K ((d, .bool b') :: e) H) : Reg P ops N is K e H := by
  subst h
  exact Reg.case d hb (fun h => by subst h; exact hk) (fun h => by subst h; exact hk)
theorem RegD.case {P : Program} {ops : Array Oper} {N : Nat} {S : Heap → Prop} {fs : List Nat} {fuel : Nat} {ls : Array Bool} {K : Env → Heap → Prop} {e : Env} {H : Heap} {b : Bool} (d : Nat) (hb : lk e d = some (.bool b))
    (ht : b = true → RegD P ops N S fs fuel ls K ((d, .bool true) :: e) H) (hf : b = false → RegD P ops N S fs fuel ls K ((d, .bool false) :: e) H) : RegD P ops N S fs fuel ls K e H := by
  intro w0 n a hd hs hA
  cases b with
  | true => exact ht rfl w0 n a hd hs (hA.dup hb)
  | false => exact hf rfl w0 n a hd hs (hA.dup hb)

def nrm : Nat → List Item → List Item
  | 0, k => k
  | _ + 1, [] => []
  | n + 1, .code c :: k => match c with
    | .skip => nrm n k
    | .label _ => nrm n k
    | .seq a b => nrm n (.code a :: .code b :: k)
    | .block id b => nrm n (.code b :: .inBlock id :: k)
    | .exit id => match exitTo id k with
      | some k' => nrm n k'
      | none => .code (.exit id) :: k
    | c => .code c :: k
  | n + 1, .inBlock _ :: k => nrm n k
  | _ + 1, k => k

theorem At.nrm {P : Program} {f : FuncId} {N : Nat} {R : Value → Heap → Prop} {e : Env} {H : Heap} : ∀ (m : Nat) (k : List Item), At P f N R (k := Fx.nrm m k) e H → At P f N R (k := k) e H
  | 0, _, h => h
  | _ + 1, [], h => h
  | m + 1, it :: k, h => by
    cases it with
    | code c =>
      cases c with
      | skip => exact At.step (fun _ _ _ _ => step_skip) (At.nrm m k h)
      | label l => exact At.step (fun _ _ _ _ => step_label) (At.nrm m k h)
      | seq a b => exact At.step (fun _ _ _ _ => step_seq) (At.nrm m _ h)
      | block id b => exact At.step (fun _ _ _ _ => step_block) (At.nrm m _ h)
      | exit id =>
        cases hx : exitTo id k with
        | some k' =>
          have e1 : Fx.nrm (m + 1) (.code (.exit id) :: k) = Fx.nrm m k' := by simp [Fx.nrm, hx]
          rw [e1] at h
          exact At.step (fun _ _ _ _ => step_exit hx) (At.nrm m _ h)
        | none =>
          have e1 : Fx.nrm (m + 1) (.code (.exit id) :: k) = .code (.exit id) :: k := by simp [Fx.nrm, hx]
          rw [e1] at h
          exact h
      | _ => exact h
    | inBlock id => exact At.step (fun _ _ _ _ => step_inBlock) (At.nrm m k h)
    | _ => exact h

theorem At.meets {P : Program} {f : FuncId} {N : Nat} {R : Value → Heap → Prop} {k k' : List Item} {e s : Env} {H : Heap} (hk : Fx.nrm 60 k = k') (h : At P f N R (k := k') s H) (hs : Sub s e) : At P f N R (k := k) e H :=
  At.nrm 60 k (by rw [hk]; exact At.sub hs h)
theorem At.via {P : Program} {f : FuncId} {N : Nat} {R : Value → Heap → Prop} {k : List Item} {e s : Env} {H : Heap} (h : At P f N R (k := k) s H) (hs : Sub s e) : At P f N R (k := k) e H := At.sub hs h

theorem At.condT {P : Program} {f : FuncId} {N : Nat} {R : Value → Heap → Prop} {k : List Item} {e : Env} {H : Heap} {c : Operand} {x y : List Item} {b : Bool} (hh : hd 60 k = .cond c x y) (hc : ev e c = some (.bool b)) (hb : b = true)
    (ht : At P f N R (k := x) e H) : At P f N R (k := k) e H := At.cond hh hc (fun _ => ht) (fun h => by rw [hb] at h; cases h)
theorem At.condF {P : Program} {f : FuncId} {N : Nat} {R : Value → Heap → Prop} {k : List Item} {e : Env} {H : Heap} {c : Operand} {x y : List Item} {b : Bool} (hh : hd 60 k = .cond c x y) (hc : ev e c = some (.bool b)) (hb : b = false)
    (hf : At P f N R (k := y) e H) : At P f N R (k := k) e H := At.cond hh hc (fun h => by rw [hb] at h; cases h) (fun _ => hf)

section rules
variable {P : Program} {dst : Option Tmp} {ty : TypeId} {pos : String} {aft : Array Edge} {gd : Option (Nat × Bool)} {e : Env} {H : Heap}

def isSl (P : Program) (t : TypeId) : Bool := match P.underlying t with | some (.slice _) => true | _ => false
def isStr (P : Program) (t : TypeId) : Bool := match P.underlying t with | some .string => true | _ => false

theorem run_call_builtin {b : Builtin} {xs : List Operand} {ats : Array TypeId} {vs : List Value} (a : Act) (w : World) (hA : Ag e a.tmps) (hx : evs e xs = some vs) :
    ∃ cs, (execOp a.eval ⟨dst, .call { callee := .builtin b, args := xs.toArray, argTypes := ats }, ty, pos, aft, gd⟩).run P w = (builtin b ats ty cs vs.toArray).run P w := by
  have h1 := hA.evs hx
  refine Exists.intro ?cs ?h
  case h =>
    simp only [execOp, resolve, Sem.run_bind, Sem.run_pure, Result.andThen_ok, invoke, List.map_toArray, h1]
    rfl

theorem Pur.lenS {x : Operand} {t : TypeId} {A : Option Addr} {n c : Nat} (ht : isSl P t = true) (hx : ev e x = some (.slice A n c)) :
    Pur P ⟨dst, .call { callee := .builtin .len, args := #[x], argTypes := #[t] }, ty, pos, aft, gd⟩ e (.int .i64 n) := by
  intro a w hA
  obtain ⟨cs, h⟩ := run_call_builtin (P := P) (dst := dst) (b := .len) (xs := [x]) (ats := #[t]) (ty := ty) (pos := pos) (aft := aft) (gd := gd) a w hA (by simp [evs, hx]; rfl)
  rw [show (#[x] : Array Operand) = [x].toArray from rfl, h]
  unfold isSl at ht
  split at ht
  · rename_i el hu
    simp [builtin, Builtin.len_, run_underlying hu, goInt]
  · cases ht
theorem Pur.not {t : TypeId} {x : Operand} {b : Bool} (hx : ev e x = some (.bool b)) : Pur P ⟨dst, .unOp .not t x, ty, pos, aft, gd⟩ e (.bool (!b)) := by
  intro a w hA
  have e1 := hA.ev hx
  simp only [execOp, e1]
  simp [Op.unary]

theorem Pur.mkf {fn : Fn} {first cap : List Operand} {vs us : List Value} (h1 : evs e first = some vs) (h2 : evs e cap = some us) :
    Pur P ⟨dst, .makeFunc fn first.toArray cap.toArray, ty, pos, aft, gd⟩ e (.func fn vs.toArray us.toArray) := by
  intro a w hA
  have e1 := hA.evs h1
  have e2 := hA.evs h2
  simp [execOp, Instr.makeFunc, e1, e2]

theorem Does.callv {x : Operand} {g : FuncId} {xs : List Operand} {ats : Array TypeId} {C : Value → Heap → Prop} {vs us : List Value} (hf : ev e x = some (.func (.func g) #[] us.toArray)) (hx : evs e xs = some vs) (h : Ret P g (vs ++ us) H C) :
    Does P ⟨dst, .call { callee := .value x, args := xs.toArray, argTypes := ats }, ty, pos, aft, gd⟩ e H C :=
  Does.of_run h fun a w hA => by
    have h1 := hA.evs hx
    have h2 := hA.ev hf
    simp only [execOp, resolve, Sem.run_bind]
    simp [Deferred.ofValue, h2, invoke, h1, h.call]


theorem fill_ones (s : Nat) (hs : s = 1) : ∀ (vs : List Value) (l z : List Value) (j : Nat), (∀ v ∈ vs, v.cells = #[v]) → l.length = j → z.length = vs.length →
    Instr.fill (fun i => some (i * s, s)) (l ++ z).toArray ((vs.zipIdx j).map fun p => (p.2, p.1)) = some (l ++ vs).toArray
  | [], l, z, j, _, _, hz => by
    have : z = [] := by simpa using hz
    subst this; simp [Instr.fill]
  | v :: vs, l, z, j, h1, hl, hz => by
    obtain ⟨z0, z, rfl⟩ : ∃ a b, z = a :: b := by cases z with
      | nil => simp at hz
      | cons a b => exact ⟨a, b, rfl⟩
    subst hs
    have hv := h1 v List.mem_cons_self
    simp only [List.zipIdx_cons, List.map_cons, Instr.fill, hv]
    have := fill_ones 1 rfl vs (l ++ [v]) z (j + 1) (fun u hu => h1 u (List.mem_cons_of_mem _ hu)) (by simp [hl]) (by simpa using hz)
    simp only [List.size_toArray, List.length_cons, List.length_nil, List.length_append]
    rw [if_neg (by simp; omega)]
    have e2 : (#[v] : Array Value).zipIdx.foldl (fun cs x => match x with | (c, j') => cs.setIfInBounds (j * 1 + j') c) (l ++ z0 :: z).toArray = (l ++ [v] ++ z).toArray := by
      subst hl
      simp [Array.zipIdx]
    rw [e2, this]
    simp

def prow : Nat → List (Nat × Operand) → Bool
  | _, [] => true
  | j, (i, _) :: r => Nat.beq i j && prow (j + 1) r

theorem prow_map (f : Operand → Value) : ∀ (j : Nat) (l : List (Nat × Operand)), prow j l = true → l.map (fun p => (p.1, f p.2)) = ((l.map (fun p => f p.2)).zipIdx j).map fun p => (p.2, p.1)
  | _, [], _ => rfl
  | j, (i, x) :: r, h => by
    simp only [prow, Bool.and_eq_true] at h
    obtain ⟨hi, h⟩ := h
    obtain rfl : i = j := by simpa using hi
    simp [prow_map f (i + 1) r h]

def sl1 (P : Program) (t : TypeId) : Bool :=
  match P.underlying t with
  | some (.slice el) => match P.info? el with
    | some i => i.size == 1 && (match i.zero with | some z => z.cells.size == 1 | none => false)
    | none => false
  | _ => false

def onesB : List Value → Bool
  | [] => true
  | v :: r => (match v with | .agg _ => false | _ => true) && onesB r

theorem onesB_cells : ∀ {vs : List Value}, onesB vs = true → ∀ v ∈ vs, v.cells = #[v]
  | v :: r, h, u, hu => by
    simp only [onesB, Bool.and_eq_true] at h
    cases hu with
    | head => cases v <;> simp_all [Value.cells]
    | tail _ hu => exact onesB_cells h.2 u hu

theorem Does.bsl1 {t : TypeId} {len : Nat} {parts : List (Nat × Operand)} {vs : List Value} (ht : sl1 P t = true) (hp : prow 0 parts = true) (hv : evs e (parts.map (·.2)) = some vs) (h1 : onesB vs = true)
    (hl : vs.length = len) (hb : Nat.ble len 16777216 = true) : Does P ⟨dst, .buildSlice t len parts.toArray, ty, pos, aft, gd⟩ e H (fun u H' => u = .slice (some ⟨H.size, 0, none⟩) len len ∧ New H H' vs) := by
  intro w0 n a hA K Q hK
  unfold sl1 at ht
  split at ht
  case h_2 => cases ht
  rename_i el hu
  split at ht
  case h_2 => cases ht
  rename_i i hi
  simp only [Bool.and_eq_true, beq_iff_eq] at ht
  obtain ⟨hsz, hz⟩ := ht
  split at hz
  case h_2 => cases hz
  rename_i z hzz
  have e1 := hA.evs hv
  rw [List.map_map] at e1
  have e2 := prow_map a.eval 0 parts hp
  have e3 : parts.map (fun p => a.eval p.2) = vs := e1
  rw [e3] at e2
  have hfill : ∀ zs : List Value, zs.length = len → Instr.fill (fun i => some (i * 1, 1)) zs.toArray (parts.map fun p => (p.1, a.eval p.2)) = some vs.toArray := by
    intro zs hzs
    rw [e2]
    have := fill_ones 1 rfl vs [] zs 0 (onesB_cells h1) rfl (by rw [hzs, hl])
    simpa using this
  have hrun : (execOp a.eval ⟨dst, .buildSlice t len parts.toArray, ty, pos, aft, gd⟩).run P (mk w0 H n) = .ok (.value (.slice (some ⟨H.size, 0, none⟩) len len)) (mk w0 (H.push (.cells vs.toArray el)) n) := by
    have hlen : len ≤ 16777216 := by simpa [Nat.ble_eq] using hb
    simp only [execOp, Instr.buildSlice, Sem.run_bind, run_underlying hu, Result.andThen_ok, run_sizeOf' hi, hsz]
    rw [if_neg (by omega)]
    simp only [Sem.run_pure, Result.andThen_ok, Nat.mul_one]
    have key : ∀ zr : Array Value, Instr.fill (fun i => some (i, 1)) (Array.map (fun x => zr[x % zr.size]!) (Array.range len)) (List.map (fun p : Nat × Operand => (p.1, a.eval p.2)) parts) = some vs.toArray := by
      intro zr
      have := hfill ((Array.range len).map (fun x => zr[x % zr.size]!)).toList (by simp)
      simpa only [Nat.mul_one, Array.toArray_toList] using this
    have hz' : (zeroValue el).run P (mk w0 H n) = .ok z (mk w0 H n) := by simp [zeroValue, typeInfo, hi, hzz]
    by_cases h0 : len = 0
    · rw [if_pos h0]
      simp only [Sem.run_bind, Sem.run_pure, Result.andThen_ok, List.map_toArray, key, newRow_run]
    · rw [if_neg h0]
      simp only [Sem.run_bind, Sem.run_pure, Result.andThen_ok, List.map_toArray, key, newRow_run, hz']
  unfold Oper.wp
  rw [hrun]
  exact hK _ _ n ⟨rfl, el, rfl⟩
end rules
end Go.Fx

namespace Go.Fx
open Go
set_option linter.unusedSimpArgs false
set_option linter.unusedVariables false

theorem Ext.upd {H0 H H' : Heap} {b : Nat} {c : List Value} (h : Ext H0 H) (u : Upd H H' b c) (hb : H0.size ≤ b) : Ext H0 H' :=
  ⟨by rw [u.1]; exact h.1, fun k hk => by rw [u.2.2 k (by omega)]; exact h.2 k hk⟩
theorem Blk.upd {H H' : Heap} {b b' : Nat} {c c' : List Value} (h : Blk H b c) (u : Upd H H' b' c') (hne : b ≠ b') : Blk H' b c := h.but u.but hne
theorem Own.upd {H H' : Heap} {b b' : Nat} {c c' : List Value} (h : Own H b c) (u : Upd H H' b' c') (hne : b ≠ b') : Own H' b c := h.but u.but hne


inductive Fk where
  | int (k : IntKind) | bool | str

def fk : Fk → Value → Prop
  | .int k, v => ∃ n, v = .int k n
  | .bool, v => ∃ b, v = .bool b
  | .str, v => ∃ s, v = .string s

def fks : List Fk → List Value → Prop
  | [], [] => True
  | k :: ks, v :: vs => fk k v ∧ fks ks vs
  | _, _ => False

def eqv : Value → Value → Bool
  | .int _ a, .int _ b => a == b
  | .bool a, .bool b => a == b
  | .string a, .string b => a.toList == b.toList
  | _, _ => false

def eqs : List Value → List Value → Bool
  | [], [] => true
  | a :: aS, b :: bs => eqv a b && eqs aS bs
  | _, _ => false

theorem fks_length : ∀ {ks : List Fk} {vs : List Value}, fks ks vs → vs.length = ks.length
  | [], [], _ => rfl
  | _ :: _, _ :: _, h => by simp [fks_length h.2]
  | [], _ :: _, h => h.elim
  | _ :: _, [], h => h.elim

theorem fks_split : ∀ {ks ks' : List Fk} {vs : List Value}, fks (ks ++ ks') vs → fks ks (vs.take ks.length) ∧ fks ks' (vs.drop ks.length)
  | [], _, _, h => ⟨trivial, by simpa using h⟩
  | _ :: _, _, [], h => h.elim
  | _ :: _, _, _ :: _, h => ⟨⟨h.1, (fks_split h.2).1⟩, (fks_split h.2).2⟩

theorem eqs_append : ∀ {a b : List Value} {c d : List Value}, a.length = b.length → eqs (a ++ c) (b ++ d) = (eqs a b && eqs c d)
  | [], [], c, d, _ => by simp [eqs]
  | x :: a, y :: b, c, d, h => by simp [eqs, eqs_append (by simpa using h : a.length = b.length), Bool.and_assoc]
  | [], _ :: _, _, _, h => by simp at h
  | _ :: _, [], _, _, h => by simp at h

def flatFs (fl : TypeId → Option (List Fk)) : Nat → List Field → Option (List Fk)
  | _, [] => some []
  | o, f :: fs => if f.name == "_" then none else if f.offset == o then match fl f.type with
    | some ks => match flatFs fl (o + ks.length) fs with
      | some r => some (ks ++ r)
      | none => none
    | none => none
    else none
def flatRep (ks : List Fk) : Nat → List Fk
  | 0 => []
  | n + 1 => ks ++ flatRep ks n

def flat (P : Program) : Nat → TypeId → Option (List Fk)
  | 0, _ => none
  | d + 1, t => match P.info? t with
    | none => none
    | some i =>
      let r := match P.underlying t with
        | some (.int k) => some [Fk.int k]
        | some .bool => some [.bool]
        | some .string => some [.str]
        | some (.struct fs) => if P.stoodInHeld t then none else flatFs (flat P d) 0 fs.toList
        | some (.array n el) => (flat P d el).map fun ks => flatRep ks n
        | _ => none
      match r with
      | some ks => if i.size == ks.length then some ks else none
      | none => none

def isAg (P : Program) (t : TypeId) : Bool := match P.underlying t with | some (.struct _) => true | some (.array _ _) => true | _ => false
def vof (P : Program) (t : TypeId) (cs : List Value) : Value := if isAg P t then .agg cs.toArray else cs.headD undef

section flat
variable {P : Program}

theorem isAg_run (t : TypeId) (h : (P.underlying t).isSome = true) (w : World) : (isAgg t).run P w = .ok (isAg P t) w := by
  obtain ⟨d, hd⟩ := Option.isSome_iff_exists.1 h
  simp only [isAgg, Sem.run_bind, run_underlying hd, Result.andThen_ok]
  unfold isAg
  rw [hd]
  cases d <;> rfl

theorem part_run {t : TypeId} {i : TypeInfo} (hi : P.info? t = some i) (hu : (P.underlying t).isSome = true) (cs : List Value) (o : Nat) (hs : isAg P t = false → i.size = 1) (hl : o + i.size ≤ cs.length) (w : World) :
    (part t cs.toArray o).run P w = .ok (vof P t ((cs.drop o).take i.size)) w := by
  unfold part
  simp only [Sem.run_bind, isAg_run t hu, Result.andThen_ok]
  unfold vof
  cases hb : isAg P t with
  | true =>
    simp only [if_true, Sem.run_bind, run_sizeOf' hi, Result.andThen_ok, Sem.run_pure]
    simp [List.extract_eq_take_drop]
  | false =>
    have h1 := hs hb
    rw [h1] at hl ⊢
    have : cs[o]? = some (cs[o]'(by omega)) := List.getElem?_eq_getElem (by omega)
    simp only [Bool.false_eq_true, if_false]
    have e2 : (cs.toArray)[o]? = some (cs[o]'(by omega)) := by simp [this]
    have e3 : (cs.drop o).take 1 = [cs[o]'(by omega)] := by rw [List.drop_eq_getElem_cons (by omega)]; rfl
    simp only [e2, e3, Sem.run_pure]
    rfl

theorem eq_flat_fs (d m : Nat) (fl : TypeId → Option (List Fk))
    (ih : ∀ t ks, fl t = some ks → ∃ i, P.info? t = some i ∧ i.size = ks.length ∧ (P.underlying t).isSome = true ∧ (isAg P t = false → i.size = 1) ∧
      ∀ xs ys, fks ks xs → fks ks ys → ∀ w, (Op.equalIn m t (vof P t xs) (vof P t ys)).run P w = .ok (eqs xs ys) w) :
    ∀ (fs : List Field) (o : Nat) (ks : List Fk), flatFs fl o fs = some ks → ∀ xs ys : List Value, o + ks.length = xs.length → xs.length = ys.length → fks ks (xs.drop o) → fks ks (ys.drop o) →
      ∀ w, (Op.eqFields m xs.toArray ys.toArray fs).run P w = .ok (eqs (xs.drop o) (ys.drop o)) w
  | [], o, ks, h, xs, ys, hl, hl2, hx, hy, w => by
    cases h
    have h1 : xs.drop o = [] := by simp at hl ⊢; omega
    have h2 : ys.drop o = [] := by simp at hl ⊢; omega
    simp [Op.eqFields, h1, h2, eqs]
  | f :: fs, o, ks, h, xs, ys, hl, hl2, hx, hy, w => by
    simp only [flatFs] at h
    split at h
    · cases h
    rename_i hn
    split at h
    case isFalse => cases h
    rename_i ho
    split at h
    case h_2 => cases h
    rename_i k1 hk1
    split at h
    case h_2 => cases h
    rename_i r hr
    cases h
    have ho' : f.offset = o := by simpa using ho
    have hn' : f.name ≠ "_" := by simpa using hn
    obtain ⟨i, hi, hsz, hu, hs1, heq⟩ := ih _ _ hk1
    simp only [List.length_append] at hl
    obtain ⟨hx1, hx2⟩ := fks_split hx
    obtain ⟨hy1, hy2⟩ := fks_split hy
    have recur := eq_flat_fs d m fl ih fs (o + k1.length) r hr xs ys (by omega) hl2 (by simpa [List.drop_drop] using hx2) (by simpa [List.drop_drop] using hy2) w
    have e1 := part_run hi hu xs o hs1 (by omega) w
    have e2 := part_run hi hu ys o hs1 (by omega) w
    rw [hsz] at e1 e2
    simp only [Op.eqFields, hn', ne_eq, not_false_eq_true, if_true, Sem.run_bind, ho', e1, e2, Result.andThen_ok, heq _ _ hx1 hy1]
    have split : eqs (xs.drop o) (ys.drop o) = (eqs ((xs.drop o).take k1.length) ((ys.drop o).take k1.length) && eqs (xs.drop (o + k1.length)) (ys.drop (o + k1.length))) := by
      conv => lhs; rw [← List.take_append_drop k1.length (xs.drop o), ← List.take_append_drop k1.length (ys.drop o)]
      rw [eqs_append (by simp; omega)]
      simp [List.drop_drop]
    rw [split]
    cases hb : eqs ((xs.drop o).take k1.length) ((ys.drop o).take k1.length) with
    | true => simp [recur]
    | false => simp

theorem eq_items (m el s : Nat) (i : TypeInfo) (hi : P.info? el = some i) (hs : i.size = s) (hu : (P.underlying el).isSome = true) (h1 : isAg P el = false → i.size = 1) (ks : List Fk) (hks : ks.length = s)
    (heq : ∀ xs ys, fks ks xs → fks ks ys → ∀ w, (Op.equalIn m el (vof P el xs) (vof P el ys)).run P w = .ok (eqs xs ys) w) :
    ∀ (n j : Nat) (xs ys : List Value), (j + n) * s = xs.length → xs.length = ys.length → fks (flatRep ks n) (xs.drop (j * s)) → fks (flatRep ks n) (ys.drop (j * s)) → ∀ w,
      (forIn (List.range' j n) ((none, ()) : Option Bool × Unit) fun i r => do
          let a ← part el xs.toArray (i * s)
          let b ← part el ys.toArray (i * s)
          let c ← Op.equalIn m el a b
          if (!c) = true then pure (ForInStep.done (some false, ())) else pure (ForInStep.yield (none, ())) : Sem (Option Bool × Unit)).run P w =
        .ok (if eqs (xs.drop (j * s)) (ys.drop (j * s)) then (none, ()) else (some false, ())) w
  | 0, j, xs, ys, hl, hl2, _, _, w => by
    have h1 : xs.drop (j * s) = [] := by simp at hl ⊢; omega
    have h2 : ys.drop (j * s) = [] := by simp at hl ⊢; omega
    simp [h1, h2, eqs]
  | n + 1, j, xs, ys, hl, hl2, hx, hy, w => by
    have hmul : (j + (n + 1)) * s = j * s + s + n * s := by rw [Nat.add_mul, Nat.add_mul]; omega
    have hmul2 : (j + 1) * s = j * s + s := by rw [Nat.add_mul]; omega
    simp only [flatRep] at hx hy
    obtain ⟨hx1, hx2⟩ := fks_split hx
    obtain ⟨hy1, hy2⟩ := fks_split hy
    rw [hks, List.drop_drop] at hx2 hy2
    rw [hks] at hx1 hy1
    have recur := eq_items m el s i hi hs hu h1 ks hks heq n (j + 1) xs ys (by rw [← hl, hmul, Nat.add_mul, hmul2]) hl2 (by rw [hmul2]; exact hx2) (by rw [hmul2]; exact hy2) w
    have e1 := part_run hi hu xs (j * s) h1 (by omega) w
    have e2 := part_run hi hu ys (j * s) h1 (by omega) w
    rw [hs] at e1 e2
    have split : eqs (xs.drop (j * s)) (ys.drop (j * s)) = (eqs ((xs.drop (j * s)).take s) ((ys.drop (j * s)).take s) && eqs (xs.drop ((j + 1) * s)) (ys.drop ((j + 1) * s))) := by
      conv => lhs; rw [← List.take_append_drop s (xs.drop (j * s)), ← List.take_append_drop s (ys.drop (j * s))]
      rw [eqs_append (by simp; omega), List.drop_drop, List.drop_drop, hmul2]
    rw [List.range'_succ, List.forIn_cons]
    simp only [Sem.run_bind, e1, e2, Result.andThen_ok, heq _ _ hx1 hy1]
    rw [split]
    cases hb : eqs ((xs.drop (j * s)).take s) ((ys.drop (j * s)).take s) with
    | true => simp only [Bool.not_true, Bool.false_eq_true, if_false, Sem.run_pure, Result.andThen_ok, Bool.true_and]; exact recur
    | false => simp
end flat
end Go.Fx

namespace Go.Fx
open Go
set_option linter.unusedSimpArgs false
set_option linter.unusedVariables false
variable {P : Program}

theorem fieldsOf_eq {t : TypeId} {fs : Array Field} (h : P.underlying t = some (.struct fs)) : P.fieldsOf t = fs := by
  unfold Program.fieldsOf; rw [h]

theorem eq_array (m : Nat) (t el n s : Nat) (i : TypeInfo) (ht : P.underlying t = some (.array n el)) (hi : P.info? el = some i) (hs : i.size = s) (hu : (P.underlying el).isSome = true) (h1 : isAg P el = false → i.size = 1) (ks : List Fk) (hks : ks.length = s)
    (heq : ∀ xs ys, fks ks xs → fks ks ys → ∀ w, (Op.equalIn m el (vof P el xs) (vof P el ys)).run P w = .ok (eqs xs ys) w)
    (xs ys : List Value) (hl : n * s = xs.length) (hl2 : xs.length = ys.length) (hx : fks (flatRep ks n) xs) (hy : fks (flatRep ks n) ys) (w : World) :
    (Op.equalIn (m + 1) t (.agg xs.toArray) (.agg ys.toArray)).run P w = .ok (eqs xs ys) w := by
  have key := eq_items m el s i hi hs hu h1 ks hks heq n 0 xs ys (by simpa using hl) hl2 (by simpa using hx) (by simpa using hy) w
  simp only [Op.equalIn, Sem.run_bind, run_underlying ht, Result.andThen_ok, run_sizeOf' hi, hs]
  have er : ∀ (f : Nat → Option Bool × Unit → Sem (ForInStep (Option Bool × Unit))), (forIn [:n] ((none, ()) : Option Bool × Unit) f) = forIn (List.range' 0 n) ((none, ()) : Option Bool × Unit) f := by
    intro f
    rw [Std.Legacy.Range.forIn_eq_forIn_range']
    simp [Std.Legacy.Range.size]
  rw [er]
  simp only [Nat.zero_mul, List.drop_zero] at key
  rw [key]
  cases eqs xs ys <;> rfl

theorem eq_flat : ∀ (d : Nat) (t : TypeId) (ks : List Fk), flat P d t = some ks → ∀ m, d ≤ m → ∃ i, P.info? t = some i ∧ i.size = ks.length ∧ (P.underlying t).isSome = true ∧ (isAg P t = false → i.size = 1) ∧
      ∀ xs ys, fks ks xs → fks ks ys → ∀ w, (Op.equalIn m t (vof P t xs) (vof P t ys)).run P w = .ok (eqs xs ys) w
  | 0, _, _, h, _, _ => by cases h
  | d + 1, t, ks, h, m, hm => by
    obtain ⟨m, rfl⟩ : ∃ m', m = m' + 1 := ⟨m - 1, by omega⟩
    simp only [flat] at h
    split at h
    · cases h
    rename_i i hi
    split at h
    case h_2 => cases h
    rename_i ks1 hr
    split at h
    case isFalse => cases h
    rename_i hsz
    cases h
    have hsz' : i.size = ks.length := by simpa using hsz
    refine ⟨i, hi, hsz', ?_⟩
    split at hr
    · rename_i k hu
      cases hr
      refine ⟨by rw [hu]; rfl, fun _ => hsz', ?_⟩
      intro xs ys hx hy w
      match xs, ys, hx, hy with
      | [x], [y], ⟨⟨a, ha⟩, _⟩, ⟨⟨b, hb⟩, _⟩ =>
        subst ha; subst hb
        simp [vof, isAg, hu, run_equalIn_int w m t k k a b hu, eqs, eqv]
    · rename_i hu
      cases hr
      refine ⟨by rw [hu]; rfl, fun _ => hsz', ?_⟩
      intro xs ys hx hy w
      match xs, ys, hx, hy with
      | [x], [y], ⟨⟨a, ha⟩, _⟩, ⟨⟨b, hb⟩, _⟩ =>
        subst ha; subst hb
        simp [vof, isAg, hu, run_equalIn_bool' w m t a b hu, eqs, eqv]
    · rename_i hu
      cases hr
      refine ⟨by rw [hu]; rfl, fun _ => hsz', ?_⟩
      intro xs ys hx hy w
      match xs, ys, hx, hy with
      | [x], [y], ⟨⟨a, ha⟩, _⟩, ⟨⟨b, hb⟩, _⟩ =>
        subst ha; subst hb
        simp [vof, isAg, hu, run_equalIn_string w m t a b hu, eqs, eqv]
    · rename_i fs hu
      split at hr
      · cases hr
      rename_i hst
      refine ⟨by rw [hu]; rfl, fun hh => by simp [isAg, hu] at hh, ?_⟩
      intro xs ys hx hy w
      have hv : ∀ zs, vof P t zs = .agg zs.toArray := fun zs => by simp [vof, isAg, hu]
      rw [hv, hv, run_equalIn_struct w m t _ _ (by rw [fieldsOf_eq hu]; exact hu) (by simpa using hst), fieldsOf_eq hu]
      have := eq_flat_fs d m (flat P d) (fun t ks h => eq_flat d t ks h m (by omega)) fs.toList 0 ks hr xs ys (by rw [fks_length hx]; simp) (by rw [fks_length hx, fks_length hy]) (by simpa using hx) (by simpa using hy) w
      simpa using this
    · rename_i n el hu
      simp only [Option.map_eq_some_iff] at hr
      obtain ⟨k1, hk1, rfl⟩ := hr
      obtain ⟨i1, hi1, hs1, hu1, h1, heq⟩ := eq_flat d el k1 hk1 m (by omega)
      refine ⟨by rw [hu]; rfl, fun hh => by simp [isAg, hu] at hh, ?_⟩
      intro xs ys hx hy w
      have hv : ∀ zs, vof P t zs = .agg zs.toArray := fun zs => by simp [vof, isAg, hu]
      have hrep : ∀ n, (flatRep k1 n).length = n * k1.length := by
        intro n
        induction n with
        | zero => simp [flatRep]
        | succ n ih => simp [flatRep, ih, Nat.add_mul]; omega
      rw [hv, hv]
      exact eq_array m t el n k1.length i1 hu hi1 hs1 hu1 h1 k1 rfl heq xs ys (by rw [fks_length hx, hrep]) (by rw [fks_length hx, fks_length hy]) hx hy w
    · cases hr
end Go.Fx

namespace Go.Fx
open Go
set_option linter.unusedSimpArgs false
set_option linter.unusedVariables false

section rules
variable {P : Program} {dst : Option Tmp} {ty : TypeId} {pos : String} {aft : Array Edge} {gd : Option (Nat × Bool)} {e : Env} {H : Heap}

def eqT (P : Program) (t : TypeId) : Option (List Fk) := if isAg P t && !(P.eqGuardType P.depth t) then flat P 12 t else none

theorem eqT_run {t : TypeId} {ks : List Fk} (hf : eqT P t = some ks) {xs ys : List Value} (h1 : fks ks xs) (h2 : fks ks ys) (w : World) :
    (Op.equalIn 10000 t (.agg xs.toArray) (.agg ys.toArray)).run P w = .ok (eqs xs ys) w ∧ P.eqGuardType P.depth t = false := by
  unfold eqT at hf
  split at hf
  · rename_i hc
    simp only [Bool.and_eq_true, Bool.not_eq_true'] at hc
    obtain ⟨i, _, _, _, _, h⟩ := eq_flat 12 t ks hf 10000 (by omega)
    have := h xs ys h1 h2 w
    simp only [vof, hc.1, if_true] at this
    exact ⟨this, hc.2⟩
  · cases hf

theorem Pur.eqA {t t' : TypeId} {x y : Operand} {xs ys : List Value} {ks : List Fk} (hf : eqT P t = some ks) (hx : ev e x = some (.agg xs.toArray)) (hy : ev e y = some (.agg ys.toArray)) (h1 : fks ks xs) (h2 : fks ks ys) :
    Pur P ⟨dst, .binOp .eql t x y t', ty, pos, aft, gd⟩ e (.bool (eqs xs ys)) := by
  intro a w hA
  have e1 := hA.ev hx
  have e2 := hA.ev hy
  obtain ⟨h3, h4⟩ := eqT_run hf h1 h2 w
  simp only [execOp, e1, e2, Sem.run_bind, run_eqGuard_agg w .eql t x y _ _ h4, Result.andThen_ok, run_eql_struct, h3, Sem.run_pure]
theorem Pur.neA {t t' : TypeId} {x y : Operand} {xs ys : List Value} {ks : List Fk} (hf : eqT P t = some ks) (hx : ev e x = some (.agg xs.toArray)) (hy : ev e y = some (.agg ys.toArray)) (h1 : fks ks xs) (h2 : fks ks ys) :
    Pur P ⟨dst, .binOp .neq t x y t', ty, pos, aft, gd⟩ e (.bool (!eqs xs ys)) := by
  intro a w hA
  have e1 := hA.ev hx
  have e2 := hA.ev hy
  obtain ⟨h3, h4⟩ := eqT_run hf h1 h2 w
  simp only [execOp, e1, e2, Sem.run_bind, run_eqGuard_agg w .neq t x y _ _ h4, Result.andThen_ok, run_neq_struct, h3, Sem.run_pure]

theorem eqs_ints : ∀ (k : IntKind) (xs ys : List Int), eqs (xs.map (Value.int k)) (ys.map (Value.int k)) = decide (xs = ys)
  | k, [], [] => rfl
  | k, [], _ :: _ => rfl
  | k, _ :: _, [] => rfl
  | k, x :: xs, y :: ys => by
    simp only [List.map_cons, eqs, eqv, eqs_ints k xs ys, List.cons.injEq]
    by_cases h : x = y <;> simp [h]
theorem fks_ints (k : IntKind) : ∀ (xs : List Int), fks (List.replicate xs.length (.int k)) (xs.map (Value.int k))
  | [] => trivial
  | x :: xs => ⟨⟨x, rfl⟩, fks_ints k xs⟩

theorem Pur.eqB {t t' : TypeId} {x y : Operand} {a b : Bool} (ht : P.underlying t = some .bool) (hx : ev e x = some (.bool a)) (hy : ev e y = some (.bool b)) : Pur P ⟨dst, .binOp .eql t x y t', ty, pos, aft, gd⟩ e (.bool (a == b)) := by
  intro A w hA
  have e1 := hA.ev hx
  have e2 := hA.ev hy
  simp only [execOp, e1, e2, eqGuard_at_bool, Sem.run_bind, Sem.run_pure, Result.andThen_ok]
  simp [binOp, Op.equal, Op.maxDepth, run_equalIn_bool' w 9999 t a b ht]
theorem Pur.eqS {t t' : TypeId} {x y : Operand} {a b : ByteArray} (hx : ev e x = some (.string a)) (hy : ev e y = some (.string b)) : Pur P ⟨dst, .binOp .eql t x y t', ty, pos, aft, gd⟩ e (.bool (a.toList == b.toList)) := by
  intro A w hA
  have e1 := hA.ev hx
  have e2 := hA.ev hy
  simp only [execOp, e1, e2, eqGuard_at_string, Sem.run_bind, Sem.run_pure, Result.andThen_ok]
  simp [binOp, Op.stringOp]
def Idx : List Value → Nat → List Value → Prop
  | l, i, [] => Nat.beq l.length i = true
  | l, i, v :: vs => l[i]? = some v ∧ Idx l (i + 1) vs

theorem Idx.drop : ∀ {vs l : List Value} {i : Nat}, Idx l i vs → l.drop i = vs
  | [], l, i, h => by
    have : l.length = i := by simpa [Idx] using h
    simp [this]
  | v :: vs, l, i, ⟨h1, h2⟩ => by
    have hlt : i < l.length := by
      rcases Nat.lt_or_ge i l.length with h | h
      · exact h
      · rw [List.getElem?_eq_none h] at h1; cases h1
    rw [List.drop_eq_getElem_cons hlt, h2.drop]
    rw [List.getElem?_eq_getElem hlt] at h1
    cases h1; rfl
theorem Idx.eq {vs l : List Value} (h : Idx l 0 vs) : l = vs := by simpa using h.drop

def splice (cs : List Value) (o : Nat) (vs : List Value) : List Value := cs.take o ++ vs ++ cs.drop (o + vs.length)

theorem splice_fold : ∀ (vs : List Value) (cs : List Value) (o j : Nat), o + j + vs.length ≤ cs.length →
    (vs.zipIdx j).foldl (fun a (x : Value × Nat) => a.setIfInBounds (o + x.2) x.1) cs.toArray = (splice cs (o + j) vs).toArray
  | [], cs, o, j, h => by simp [splice]
  | v :: vs, cs, o, j, h => by
    simp only [List.length_cons] at h
    rw [List.zipIdx_cons, List.foldl_cons]
    have e1 : cs.toArray.setIfInBounds (o + j) v = (cs.set (o + j) v).toArray := by simp
    rw [e1, splice_fold vs (cs.set (o + j) v) o (j + 1) (by simp; omega)]
    congr 1
    unfold splice
    rw [List.drop_set_of_lt (by omega), show o + (j + 1) = (o + j) + 1 from by omega, List.take_set, List.take_succ_eq_append_getElem (by omega), List.set_append_right _ _ (by simp; omega)]
    simp [show o + j - min (o + j) cs.length = 0 from by omega, show o + j + 1 + vs.length = o + j + (vs.length + 1) from by omega]

def bldL (pl : List (Nat × Nat)) : List Value → List (Nat × Value) → Option (List Value)
  | cs, [] => some cs
  | cs, (i, v) :: r => match pl[i]? with
    | some (o, s) => match Nat.beq v.cells.size s && Nat.ble (o + s) cs.length with
      | true => bldL pl (splice cs o v.cells.toList) r
      | false => none
    | none => none

theorem fill_bld (pl : List (Nat × Nat)) : ∀ (r : List (Nat × Value)) (cs l : List Value), bldL pl cs r = some l → Instr.fill (fun i => pl[i]?) cs.toArray r = some l.toArray
  | [], cs, l, h => by cases h; rfl
  | (i, v) :: r, cs, l, h => by
    simp only [bldL] at h
    split at h
    case h_2 => cases h
    rename_i o s hp
    split at h
    case h_2 => cases h
    rename_i hc
    simp only [Bool.and_eq_true] at hc
    have h1 : v.cells.size = s := by simpa using hc.1
    have h2 : o + s ≤ cs.length := by simpa [Nat.ble_eq] using hc.2
    simp only [Instr.fill, hp]
    rw [if_neg (by simp [h1]; omega)]
    have e1 : v.cells.zipIdx.foldl (fun cs x => match x with | (c, j) => cs.setIfInBounds (o + j) c) cs.toArray = (splice cs o v.cells.toList).toArray := by
      have := splice_fold v.cells.toList cs o 0 (by simp; omega)
      simp only [Nat.add_zero] at this
      rw [← this]
      rw [← Array.foldl_toList]
      congr 1
      simp
    rw [e1]
    exact fill_bld pl r _ l h

def places (P : Program) (t : TypeId) : Option (List (Nat × Nat)) :=
  match P.underlying t with
  | some (.struct fs) => fs.toList.mapM fun f => (P.info? f.type).map fun i => (f.offset, i.size)
  | _ => none

theorem places_run : ∀ (fs : List Field) (pl : List (Nat × Nat)), (fs.mapM fun f => (P.info? f.type).map fun i => (f.offset, i.size)) = some pl → ∀ w,
    (fs.mapM (fun f => do pure (f.offset, ← sizeOf f.type) : Field → Sem (Nat × Nat))).run P w = .ok pl w
  | [], pl, h, w => by cases h; simp
  | f :: fs, pl, h, w => by
    rw [List.mapM_cons] at h
    simp only [Option.bind_eq_bind, Option.bind_eq_some_iff, Option.map_eq_some_iff, Option.pure_def, Option.some.injEq] at h
    obtain ⟨p, ⟨i, hi, rfl⟩, r, hr, rfl⟩ := h
    rw [List.mapM_cons]
    simp only [Sem.run_bind, run_sizeOf' hi, Result.andThen_ok, Sem.run_pure, places_run fs r hr w]

theorem Pur.bld {t : TypeId} {parts : List (Nat × Operand)} {pl : List (Nat × Nat)} {z vs l cs : List Value} (hp : places P t = some pl) (hz : zc P t = some z) (hv : evs e (parts.map (·.2)) = some vs)
    (hb : bldL pl z ((parts.map (·.1)).zip vs) = some l) (hi : Idx l 0 cs) : Pur P ⟨dst, .build t parts.toArray, ty, pos, aft, gd⟩ e (.agg cs.toArray) := by
  intro a w hA
  obtain rfl := hi.eq
  have h1 := hA.evs hv
  unfold places at hp
  split at hp
  case h_2 => cases hp
  rename_i fs hu
  obtain ⟨zv, hzc, hzr⟩ := zero_run hz w
  have hmap : (fs.mapM (fun f => do pure (f.offset, ← sizeOf f.type) : Field → Sem (Nat × Nat))).run P w = .ok pl.toArray w := by
    rw [Array.mapM_eq_mapM_toList]
    simp only [Sem.run_map, places_run _ _ hp w, Result.andThen_ok]
  have hparts : (parts.map fun p => (p.1, a.eval p.2)) = (parts.map (·.1)).zip vs := by
    rw [← h1, List.map_map]
    rw [List.zip_map']
    rfl
  have hfill := fill_bld pl _ z l hb
  have e9 : (fun x : Nat => pl.toArray[x]?) = fun i : Nat => pl[i]? := by funext i; simp
  simp only [execOp, Instr.build, Sem.run_bind, hzr, Result.andThen_ok, run_underlying hu, hmap, hzc, List.map_toArray, hparts, e9, hfill, Sem.run_pure]

theorem fill_aggs (s : Nat) : ∀ (vs : List (List Value)) (l z : List Value) (j : Nat), (∀ v ∈ vs, v.length = s) → l.length = j * s → z.length = vs.length * s →
    Instr.fill (fun i => some (i * s, s)) (l ++ z).toArray (((vs.map fun c => Value.agg c.toArray).zipIdx j).map fun p => (p.2, p.1)) = some (l ++ vs.flatten).toArray
  | [], l, z, j, _, _, hz => by
    have : z = [] := by simpa using hz
    subst this; simp [Instr.fill]
  | v :: vs, l, z, j, h1, hl, hz => by
    have hv := h1 v List.mem_cons_self
    simp only [List.length_cons, Nat.add_mul, Nat.one_mul] at hz
    simp only [List.map_cons, List.zipIdx_cons, Instr.fill]
    rw [if_neg (by simp [Value.cells, hv]; omega)]
    have e1 : (Value.agg v.toArray).cells.zipIdx.foldl (fun cs x => match x with | (c, j') => cs.setIfInBounds (j * s + j') c) (l ++ z).toArray = (splice (l ++ z) (j * s) v).toArray := by
      have := splice_fold v (l ++ z) (j * s) 0 (by simp; omega)
      simp only [Nat.add_zero] at this
      show v.toArray.zipIdx.foldl _ _ = _
      rw [← this, ← Array.foldl_toList]
      congr 1
      simp
    have e2 : splice (l ++ z) (j * s) v = (l ++ v) ++ z.drop s := by
      unfold splice
      rw [← hl, List.take_left, hv, List.drop_append, List.drop_of_length_le (by omega)]
      simp
    rw [e1, e2]
    have := fill_aggs s vs (l ++ v) (z.drop s) (j + 1) (fun u hu => h1 u (List.mem_cons_of_mem _ hu)) (by simp [hl, hv, Nat.add_mul]) (by simp; omega)
    rw [this]
    simp

def slA (P : Program) (t : TypeId) : Option (TypeId × Nat) :=
  match P.underlying t with
  | some (.slice el) => match P.info? el with
    | some i => match i.zero with
      | some z => if z.cells.size == i.size && Nat.blt 0 i.size then some (el, i.size) else none
      | none => none
    | none => none
  | _ => none

theorem Does.bslA {t el s : Nat} {len : Nat} {parts : List (Nat × Operand)} (vs : List (List Value)) {us : List Value} (ht : slA P t = some (el, s)) (hp : prow 0 parts = true) (hv : evs e (parts.map (·.2)) = some us) (hu : us = vs.map fun c => Value.agg c.toArray)
    (h1 : (vs.all fun c => Nat.beq c.length s) = true) (hl : vs.length = len) (hb : Nat.ble (len * s) 16777216 = true) :
    Does P ⟨dst, .buildSlice t len parts.toArray, ty, pos, aft, gd⟩ e H (fun u H' => u = .slice (some ⟨H.size, 0, none⟩) len len ∧ H' = H.push (.cells vs.flatten.toArray el (0, 0))) := by
  intro w0 n a hA K Q hK
  unfold slA at ht
  split at ht
  case h_2 => cases ht
  rename_i el' hu'
  split at ht
  case h_2 => cases ht
  rename_i i hi
  split at ht
  case h_2 => cases ht
  rename_i z hz
  split at ht
  case isFalse => cases ht
  rename_i hc
  cases ht
  simp only [Bool.and_eq_true, beq_iff_eq] at hc
  obtain ⟨hzs, hpos⟩ := hc
  have hpos' : 0 < i.size := by simpa [Nat.blt_eq] using hpos
  subst hu
  have e1 := hA.evs hv
  rw [List.map_map] at e1
  have e2 := prow_map a.eval 0 parts hp
  have e3 : parts.map (fun p => a.eval p.2) = vs.map fun c => Value.agg c.toArray := e1
  rw [e3] at e2
  have hvs : ∀ v ∈ vs, v.length = i.size := fun v hv => by
    have := List.all_eq_true.1 h1 v hv
    simpa using this
  have hlen : len * i.size ≤ 16777216 := by simpa [Nat.ble_eq] using hb
  have key : ∀ zr : Array Value, Instr.fill (fun j => some (j * i.size, i.size)) (Array.map (fun x => zr[x % zr.size]!) (Array.range (len * i.size))) (List.map (fun p : Nat × Operand => (p.1, a.eval p.2)) parts) = some vs.flatten.toArray := by
    intro zr
    rw [e2]
    have := fill_aggs i.size vs [] ((Array.range (len * i.size)).map (fun x => zr[x % zr.size]!)).toList 0 hvs (by simp) (by simp [hl])
    simpa only [List.nil_append, Array.toArray_toList] using this
  have hz' : (zeroValue el).run P (mk w0 H n) = .ok z (mk w0 H n) := by simp [zeroValue, typeInfo, hi, hz]
  have hrun : (execOp a.eval ⟨dst, .buildSlice t len parts.toArray, ty, pos, aft, gd⟩).run P (mk w0 H n) = .ok (.value (.slice (some ⟨H.size, 0, none⟩) len len)) (mk w0 (H.push (.cells vs.flatten.toArray el)) n) := by
    simp only [execOp, Instr.buildSlice, Sem.run_bind, run_underlying hu', Result.andThen_ok, run_sizeOf' hi]
    rw [if_neg (by omega)]
    simp only [Sem.run_pure, Result.andThen_ok]
    by_cases h0 : len * i.size = 0
    · rw [if_pos h0]
      simp only [Sem.run_bind, Sem.run_pure, Result.andThen_ok, List.map_toArray, key, newRow_run]
    · rw [if_neg h0]
      simp only [Sem.run_bind, Sem.run_pure, Result.andThen_ok, List.map_toArray, key, newRow_run, hz']
  unfold Oper.wp
  rw [hrun]
  exact hK _ _ n ⟨rfl, rfl⟩


def OwnS (H : Heap) (B : Nat) (el : TypeId) (s : Nat) (v : Value) (n : Nat) (xs : List Value) : Prop :=
  xs.length = n * s ∧
  ((v = .slice none 0 0 ∧ n = 0) ∨
   ∃ g cap cur, v = .slice (some ⟨g, 0, none⟩) n cap ∧ B ≤ g ∧ H[g]? = some (.cells cur el (0, 0)) ∧ n ≤ cap ∧ cap ≤ maxLen ∧ cur.size = cap * s ∧ cur.toList.take (n * s) = xs)

theorem OwnS.nil (H : Heap) (B : Nat) (el : TypeId) (s : Nat) : OwnS H B el s (.slice none 0 0) 0 [] := ⟨by simp, .inl ⟨rfl, rfl⟩⟩
theorem OwnS.new {H : Heap} {B : Nat} {el : TypeId} {s n : Nat} {xs : List Value} (hl : xs.length = n * s) (hn : n ≤ maxLen) (hB : B ≤ H.size) : OwnS (H.push (.cells xs.toArray el (0, 0))) B el s (.slice (some ⟨H.size, 0, none⟩) n n) n xs :=
  ⟨hl, .inr ⟨H.size, n, xs.toArray, rfl, hB, by simp, Nat.le_refl _, hn, by simpa using hl, by simp [← hl]⟩⟩
theorem New.of_push {H : Heap} {el : TypeId} {xs : List Value} : New H (H.push (.cells xs.toArray el (0, 0))) xs := ⟨el, rfl⟩
theorem OwnS.but {H H' : Heap} {S : Nat → Prop} {B : Nat} {el : TypeId} {s : Nat} {v : Value} {n : Nat} {xs : List Value} (h : OwnS H B el s v n xs) (he : But S H H') (hs : ∀ g, v.ownBlock = some g → ¬ S g) : OwnS H' B el s v n xs := by
  refine ⟨h.1, h.2.imp id ?_⟩
  rintro ⟨g, cap, cur, rfl, h2, h3, r⟩
  have hlt : g < H.size := by
    rcases Nat.lt_or_ge g H.size with h' | h'
    · exact h'
    · simp [Array.getElem?_eq_none h'] at h3
  exact ⟨g, cap, cur, rfl, h2, by rw [he.2 g hlt (hs g rfl)]; exact h3, r⟩
theorem OwnS.ext {H H' : Heap} {B : Nat} {el : TypeId} {s : Nat} {v : Value} {n : Nat} {xs : List Value} (h : OwnS H B el s v n xs) (he : Ext H H') : OwnS H' B el s v n xs :=
  h.but (S := fun _ => False) he.but (fun _ _ h => h)

def Src (H : Heap) (v : Value) (s m : Nat) (xs : List Value) : Prop :=
  xs.length = m * s ∧ ∃ A cap, v = .slice A m cap ∧ (A = none → cap = 0) ∧ (m = 0 ∨ ∃ b o c, A = some ⟨b, o, none⟩ ∧ Blk H b c ∧ (c.drop o).take (m * s) = xs)

def appT (P : Program) (t : TypeId) : Option (TypeId × Nat × Nat) :=
  match P.underlying t with
  | some (.slice el) => match P.info? el with
    | some i => match i.zero with
      | some z => if z.cells.size == i.size && Nat.blt 0 i.size then some (el, i.size, i.bytes) else none
      | none => none
    | none => none
  | _ => none

theorem mk_of {w0 w : World} (h1 : w.os = w0.os) (h2 : w.tape = w0.tape) (h3 : w.output = w0.output) : w = mk w0 w.heap w.drawn := by
  cases w; simp only [mk] at *; subst h1; subst h2; subst h3; rfl

theorem Does.app {x y : Operand} {t el : TypeId} {s by' B n m : Nat} {v u : Value} {xs news : List Value} (ht : appT P t = some (el, s, by')) (hx : ev e x = some v) (hy : ev e y = some u)
    (hown : OwnS H B el s v n xs) (hsrc : Src H u s m news) (h1 : ones news = true) (h63 : n + m ≤ maxLen) (hby : (n + m) * by' ≤ 140737488355328) (hB : B ≤ H.size) :
    Does P ⟨dst, .call { callee := .builtin .append, args := #[x, y], argTypes := #[t, t] }, ty, pos, aft, gd⟩ e H (fun v' H' => OwnS H' B el s v' (n + m) (xs ++ news) ∧ But (fun g => v.ownBlock = some g) H H' ∧
      (v' = .slice none 0 0 ↔ v = .slice none 0 0 ∧ m = 0) ∧ (v'.ownBlock = v.ownBlock ∨ v'.ownBlock = some H.size)) := by
  intro w0 nn a hA K Q hK
  unfold appT at ht
  split at ht
  case h_2 => cases ht
  rename_i el' hu
  split at ht
  case h_2 => cases ht
  rename_i i hi
  split at ht
  case h_2 => cases ht
  rename_i z hz
  split at ht
  case isFalse => cases ht
  rename_i hc
  cases ht
  simp only [Bool.and_eq_true, beq_iff_eq] at hc
  obtain ⟨hzs, hpos⟩ := hc
  have hpos' : 0 < i.size := by simpa [Nat.blt_eq] using hpos
  obtain ⟨cs, hcall⟩ := run_call_builtin (P := P) (dst := dst) (b := .append) (xs := [x, y]) (ats := #[t, t]) (ty := ty) (pos := pos) (aft := aft) (gd := gd) (vs := [v, u]) a (mk w0 H nn) hA (by simp [evs, hx, hy])
  have hown' : (mk w0 H nn).ownsRow B el i.size v n xs := hown
  have key : ∃ v' w', (Builtin.append_ #[t, t] ty #[v, u]).run P (mk w0 H nn) = .ok v' w' ∧ w'.ownsRow B el i.size v' (n + m) (xs ++ news) ∧ (mk w0 H nn).grownBy w' v.ownBlock ∧
      (v' = .slice none 0 0 ↔ v = .slice none 0 0 ∧ m = 0) ∧ (v'.ownBlock = v.ownBlock ∨ v'.ownBlock = some (mk w0 H nn).heap.size) := by
    obtain ⟨hlen, hs⟩ := hsrc
    obtain ⟨A, cap, rfl, hn0, hs⟩ := hs
    cases A with
    | none =>
      have hc0 := hn0 rfl
      subst hc0
      have hm : m = 0 := by
        rcases hs with h | ⟨b, o, c, h, _⟩
        · exact h
        · cases h
      subst hm
      have hn : news = [] := List.eq_nil_of_length_eq_zero (by simpa using hlen)
      subst hn
      have hr := run_append_owned_none (P := P) (w := mk w0 H nn) B t ty el i i.size hu hi v n xs hown'
      refine ⟨v, mk w0 H nn, hr, by simpa using hown', ⟨rfl, rfl, rfl, Nat.le_refl _, fun _ _ _ => rfl⟩, by simp, .inl rfl⟩
    | some ad =>
      refine run_append_own_at (P := P) (mk w0 H nn) B t ty el i z i.size i.bytes hu hi hz rfl rfl hzs hpos' v n xs hown' ad m cap news hlen ?_ ?_ h63 hby hB
      · intro j q hj
        rcases hs with h0 | ⟨b, o, c, h, hb, hc⟩
        · subst h0
          have hn : news = [] := List.eq_nil_of_length_eq_zero (by simpa using hlen)
          subst hn; simp at hj
        · cases h
          rw [add_lit, cell_blk rfl hb]
          have : ((c.drop o).take (m * i.size))[j]? = some q := by rw [hc]; exact hj
          rw [List.getElem?_take] at this
          split at this
          · simpa using this
          · cases this
      · intro q hq
        simp only [ones, List.all_eq_true] at h1
        exact h1 q hq
  obtain ⟨v', w', hr, h2, h3, h4, h5⟩ := key
  have hw' : w' = mk w0 w'.heap w'.drawn := mk_of (by rw [h3.os]; rfl) (by rw [h3.tape]; rfl) (by rw [h3.output]; rfl)
  unfold Oper.wp
  rw [show (#[x, y] : Array Operand) = [x, y].toArray from rfl, hcall]
  have hb : (builtin .append #[t, t] ty cs [v, u].toArray).run P (mk w0 H nn) = .ok (.value v') w' := by
    simp only [builtin, Sem.run_bind, hr, Result.andThen_ok, Sem.run_pure]
  rw [hb]
  show K _ w'
  rw [hw']
  exact hK v' w'.heap w'.drawn ⟨h2, ⟨h3.size, fun k hk hS => h3.block k hk (fun e => hS e.symm)⟩, h4, h5⟩

theorem Pur.neg {t : TypeId} {x : Operand} {k : IntKind} {n : Int} (hx : ev e x = some (.int k n)) : Pur P ⟨dst, .unOp .neg t x, ty, pos, aft, gd⟩ e (.int k (k.wrap (-n))) := by
  intro a w hA
  have e1 := hA.ev hx
  simp only [execOp, e1]
  simp [Op.unary, Op.intArith]
theorem Pur.neg64 {t : TypeId} {x : Operand} {n : Int} (hx : ev e x = some (.int .i64 n)) (h : -9223372036854775808 ≤ -n ∧ -n ≤ 9223372036854775807) : Pur P ⟨dst, .unOp .neg t x, ty, pos, aft, gd⟩ e (.int .i64 (-n)) := by
  have := Pur.neg (P := P) (dst := dst) (ty := ty) (pos := pos) (aft := aft) (gd := gd) (t := t) hx
  rwa [wrap_in h] at this

end rules
end Go.Fx

namespace Go.Fx
set_option linter.unusedSimpArgs false
set_option linter.unusedVariables false
open Go

def arr (P : Program) (t : TypeId) : Option (Nat × Nat) :=
  match P.underlying t with
  | some (.array n el) => (P.info? el).map fun i => (n, i.size)
  | _ => none
def arr1 (P : Program) (t : TypeId) : Option Nat :=
  match P.underlying t with
  | some (.array n el) => if sc P el then some n else none
  | _ => none
section
variable {P : Program} {dst : Option Tmp} {ty : TypeId} {pos : String} {aft : Array Edge} {gd : Option (Nat × Bool)} {e : Env} {H : Heap}

theorem Pur.idxP {t : TypeId} {x y : Operand} {b o n s : Nat} {k : IntKind} {i : Int} (hs : arr P t = some (n, s)) (hx : ev e x = some (.pointer (some ⟨b, o, none⟩)))
    (hy : ev e y = some (.int k i)) (h0 : 0 ≤ i) (h1 : i < n) : Pur P ⟨dst, .indexAddr t x y, ty, pos, aft, gd⟩ e (.pointer (some ⟨b, o + i.toNat * s, none⟩)) := by
  intro A w hA
  unfold arr at hs
  split at hs
  · rename_i n' el hu
    simp only [Option.map_eq_some_iff, Prod.mk.injEq] at hs
    obtain ⟨inf, hi, rfl, rfl⟩ := hs
    simp [execOp, hA.ev hx, hA.ev hy, Instr.indexAt, asIntOf, run_underlying hu, h0, h1, run_sizeOf' hi, add_lit, Instr.sureAddr]
  · cases hs

theorem Pur.ixA {t : TypeId} {x y : Operand} {cs : List Value} {n : Nat} {k : IntKind} {i : Int} {v : Value} (hs : arr1 P t = some n) (hx : ev e x = some (.agg cs.toArray))
    (hy : ev e y = some (.int k i)) (h0 : 0 ≤ i) (h1 : i < n) (hv : cs[i.toNat]? = some v) : Pur P ⟨dst, .index t x y, ty, pos, aft, gd⟩ e v := by
  intro A w hA
  unfold arr1 at hs
  split at hs
  · rename_i n' el hu
    split at hs
    · rename_i hsc
      cases hs
      simp [execOp, hA.ev hx, hA.ev hy, Instr.index, asIntOf, run_underlying hu, h0, h1, sc_size hsc, part, sc_isAgg hsc, hv]
    · cases hs
  · cases hs

end
end Go.Fx

namespace Go.Fx
set_option linter.unusedSimpArgs false
set_option linter.unusedVariables false
open Go

def Holds (P : Program) (H : Heap) (t : TypeId) (b o : Nat) (v : Value) : Prop :=
  ∃ c, Blk H b c ∧ ((sc P t = true ∧ c[o]? = some v) ∨ ∃ m xs, ag P t = some m ∧ (c.drop o).take m = xs ∧ xs.length = m ∧ v = .agg xs.toArray)

def RL (P : Program) (e : Env) (H : Heap) : List ResultVar → List Value → Prop
  | [], vs => vs = []
  | .tmp t :: r, vs => ∃ v vs', vs = v :: vs' ∧ lk e t = some v ∧ RL P e H r vs'
  | .cell a t :: r, vs => ∃ v vs' b o, vs = v :: vs' ∧ lk e a = some (.pointer (some ⟨b, o, none⟩)) ∧ Holds P H t b o v ∧ RL P e H r vs'

def tupl : List Value → Value
  | [v] => v
  | vs => .tuple ⟨vs⟩

section
variable {P : Program} {e : Env} {tm : Array Value} {H : Heap}
theorem holds_run {t : TypeId} {b o : Nat} {v : Value} (h : Holds P H t b o v) {w : World} (hw : w.heap = H) : (loadVar t ⟨b, o, none⟩).run P w = .ok v w := by
  obtain ⟨c, hb, ⟨h1, h2⟩ | ⟨m, xs, h1, h2, h3, rfl⟩⟩ := h
  · exact loadVar1_run h1 hb h2 hw
  · exact loadVarN_run h1 hb h2 h3 hw

theorem rl_run (hA : Ag e tm) {w : World} (hw : w.heap = H) : ∀ {l : List ResultVar} {vs : List Value}, RL P e H l vs → (l.mapM (resM tm)).run P w = .ok vs w
  | [], vs, h => by cases h; simp
  | .tmp t :: r, vs, h => by
    obtain ⟨v, vs', rfl, h1, h2⟩ := h
    have h3 := rl_run hA hw h2
    have h4 : tm.getD t undef = v := by rw [Array.getD_eq_getD_getElem?, hA t v h1]; rfl
    rw [List.mapM_cons]
    simp only [resM, Sem.run_bind, Sem.run_pure, Result.andThen_ok, h3, h4]
  | .cell a t :: r, vs, h => by
    obtain ⟨v, vs', b, o, rfl, h1, h5, h2⟩ := h
    have h3 := rl_run hA hw h2
    have h4 : tm.getD a undef = .pointer (some ⟨b, o, none⟩) := by rw [Array.getD_eq_getD_getElem?, hA a _ h1]; rfl
    rw [List.mapM_cons]
    simp only [resM, Sem.run_bind, Sem.run_pure, Result.andThen_ok, h3, h4, asAddr, holds_run h5 hw]

theorem results_runC (hA : Ag e tm) (fn : Func) {w : World} (hw : w.heap = H) {vs : List Value} (h : RL P e H fn.results.toList vs) : (results fn tm).run P w = .ok (tupl vs) w := by
  rw [results_eq]
  have := rl_run (P := P) hA hw h
  have key : (fn.results.mapM (resM tm)).run P w = .ok vs.toArray w := by
    rw [Array.mapM_eq_mapM_toList]
    simp only [Sem.run_map, this, Result.andThen_ok]
  rw [Sem.run_bind, key]
  match vs with
  | [] => simp [tupl]
  | [v] => simp [tupl]
  | v :: u :: vs => simp [tupl]

variable {f : FuncId} {N : Nat} {R : Value → Heap → Prop} {k : List Item}
theorem At.retC {fn : Func} {vs : List Value} (hh : hd 60 k = .ret) (hf : P.funcs[f]? = some fn) (hv : RL P e H fn.results.toList vs) (hR : R (tupl vs) H) : At P f N R (k := k) e H := by
  have key : ∀ k, At P f N R (k := .code .ret :: k) e H := by
    intro k w0 n a cs hdf hs hA
    exact ⟨tupl vs, H, n, _, hR, .one step_ret, rfl, rfl, hdf, rfl, fn, hf, results_runC hA fn rfl hv⟩
  exact At.of_hd 60 k (by rw [hh]; exact key)
end
end Go.Fx

namespace Go.Fx
set_option linter.unusedSimpArgs false
set_option linter.unusedVariables false
open Go
def isSl' (P : Program) (t : TypeId) : Bool := match P.underlying t with | some (.slice _) => true | _ => false
section
variable {P : Program} {dst : Option Tmp} {ty : TypeId} {pos : String} {aft : Array Edge} {gd : Option (Nat × Bool)} {e : Env} {H : Heap} {t t' : TypeId} {x y : Operand}
theorem eq_sl_nil (d : Nat) (ht : isSl' P t = true) (a : Option Addr) (l c l' c' : Nat) (w : World) : (Op.equalIn (d + 1) t (.slice a l c) (.slice none l' c')).run P w = .ok a.isNone w := by
  unfold isSl' at ht
  split at ht
  · rename_i el hu
    cases a <;> simp [Op.equalIn, run_underlying hu]
  · cases ht
theorem eqGuard_sl (op : BinOp) (t : TypeId) (x y : Operand) (a : Option Addr) (l c : Nat) (v : Value) : eqGuard op t x y (.slice a l c) v = pure () := by cases op <;> rfl
theorem Pur.eqSN {a : Option Addr} {l c l' c' : Nat} (ht : isSl' P t = true) (hx : ev e x = some (.slice a l c)) (hy : ev e y = some (.slice none l' c')) : Pur P ⟨dst, .binOp .eql t x y t', ty, pos, aft, gd⟩ e (.bool a.isNone) := by
  intro A w hA
  simp only [execOp, hA.ev hx, hA.ev hy, eqGuard_sl, Sem.run_bind, Sem.run_pure, Result.andThen_ok]
  simp [binOp, Op.equal, Op.maxDepth, eq_sl_nil 9999 ht]
end
end Go.Fx

namespace Go.Fx
set_option linter.unusedSimpArgs false
set_option linter.unusedVariables false
open Go Go.ChangeShapes Go.WideShapes Go.ChangeAt Go.RowKit

theorem trodAll_stays {H : Type} {enc : TypeId × Value → H} {P : Program} (hl : laidOutB P = true) {W W' : World} (hb : Below W.heap.size W W') : ∀ {ts : List TypeId} {vs : List Value} {ds : List (DataW H)} {ps : List MemPlace},
    (∀ t ∈ ts, P.readableRec t = true ∧ t < P.types.size) → DataW.TrodAll enc P W 0 (fun _ => true) true ts vs ds ps → (∀ p ∈ ps, p.block < W.heap.size) →
    DataW.TrodAll enc P W' 0 (fun b => decide (b < W.heap.size)) true ts vs ds ps
  | [], [], [], _, _, h, _ => h
  | t :: ts, v :: vs, d :: ds, ps, hr, h, hlt => by
    obtain ⟨p, q, h1, h2, rfl⟩ := h
    obtain ⟨r1, r2⟩ := hr t List.mem_cons_self
    exact ⟨p, q, Below.trod hl r1 r2 h1 hb (fun x hx => hlt x (List.mem_append_left _ hx)), trodAll_stays hl hb (fun t ht => hr t (List.mem_cons_of_mem _ ht)) h2 (fun x hx => hlt x (List.mem_append_right _ hx)), rfl⟩
  | [], _ :: _, _, _, _, h, _ => h.elim
  | [], [], _ :: _, _, _, h, _ => h.elim
  | _ :: _, [], _, _, _, h, _ => h.elim
  | _ :: _, _ :: _, [], _, _, h, _ => h.elim

theorem trodAll_length {H : Type} {enc : TypeId × Value → H} {P : Program} {W : World} {b : Nat} {sp : Nat → Bool} {hd : Bool} : ∀ {ts : List TypeId} {vs : List Value} {ds : List (DataW H)} {ps : List MemPlace},
    DataW.TrodAll enc P W b sp hd ts vs ds ps → ds.length = ts.length
  | [], [], [], _, _ => rfl
  | t :: ts, v :: vs, d :: ds, ps, h => by
    obtain ⟨p, q, _, h2, _⟩ := h
    simp [trodAll_length h2]
  | [], _ :: _, _, _, h => h.elim
  | [], [], _ :: _, _, h => h.elim
  | _ :: _, [], _, _, h => h.elim
  | _ :: _, _ :: _, [], _, h => h.elim

theorem below_ext {W : World} {H' : Heap} {n : Nat} (h : Ext W.heap H') : Below W.heap.size W (mk W H' n) := ⟨rfl, rfl, rfl, h.1, h.2⟩

theorem law_calls {H : Type} {enc : TypeId × Value → H} {P : Program} {f : FuncId} {fn : Func} {s : ChangeSpec} {tb : TypeId} {W : World} {args : Array Value} {ds gs : List (DataW H)} {before : List MemPlace}
    (hl : laidOutB P = true) (hpar : ∀ t ∈ fn.params.toList, P.readableRec t = true ∧ t < P.types.size) (hres : fn.resultTypes = #[tb]) (hbool : P.underlying tb = some .bool) (hvars : s.vars = [])
    (hspec : s.fn H ds = { results := [.lit (.bool true)], args := ds })
    (hW : DataW.Whole enc P fn.params.toList s.vars false W args.toList ds gs before)
    (h : Ret P f args.toList W.heap (fun v H' => v = .bool true ∧ Ext W.heap H')) :
    Calls P f args W fun e W' => ∃ v, e = .returned v ∧ s.post enc P fn false true false false W args v W' := by
  have h0 := h.runs W W.drawn
  rw [mk_self] at h0
  have hargs : args.toList.toArray = args := by simp
  rw [hargs] at h0
  refine h0.mono fun e W' hx => ?_
  obtain ⟨v, H', n', rfl, rfl, rfl, hE⟩ := hx
  have hlt := hW.lt
  have hW2 := hW
  obtain ⟨p, q, hA, hV, rfl, hfz, hnd⟩ := hW2
  rw [hvars] at hV
  obtain ⟨rfl, rfl⟩ := trodVars_none hV
  have hB := below_ext (n := n') hE
  refine ⟨_, rfl, ds, [], p ++ [], [], p, [], by simpa using hW, ?_, ?_, ?_, hB.frame _, fun h => by cases h⟩
  · rw [List.append_nil, hspec, hres]
    exact trodAll_mk1 (shut_bool hbool _)
  · rw [List.append_nil, hspec]
    exact trodAll_stays hl hB hpar hA (fun x hx => hlt x (by simpa using hx))
  · rw [hvars, List.append_nil, hspec]
    rfl
end Go.Fx

namespace Go.Fx
set_option linter.unusedSimpArgs false
set_option linter.unusedVariables false
open Go

inductive Cs where
  | int (k : IntKind) | bool | str
  | sl (bytes : Nat) (els : List Cs)

mutual
def fitc (H : Heap) : Cs → Value → Prop
  | .int k, v => ∃ n, v = .int k n ∧ (Lit.int k n).wf = true
  | .bool, v => ∃ b, v = .bool b
  | .str, v => ∃ s, v = .string s ∧ s.size ≤ reachBytes
  | .sl by' els, v => ∃ A len cap, v = .slice A len cap ∧ len ≤ cap ∧ cap ≤ maxLen ∧ len * by' ≤ reachBytes ∧ (A = none → cap = 0) ∧ (len = 0 ∨ ∃ b o c, A = some ⟨b, o, none⟩ ∧ Blk H b c ∧
      ∀ i, i < len → o + i * els.length + els.length ≤ c.length ∧ fits H els ((c.drop (o + i * els.length)).take els.length))
def fits (H : Heap) : List Cs → List Value → Prop
  | [], vs => vs = []
  | k :: ks, vs => ∃ v r, vs = v :: r ∧ fitc H k v ∧ fits H ks r
end

theorem fits_append {H : Heap} : ∀ {ks ks' : List Cs} {vs vs' : List Value}, fits H ks vs → fits H ks' vs' → fits H (ks ++ ks') (vs ++ vs')
  | [], ks', vs, vs', h, h' => by simp only [fits] at h; subst h; simpa using h'
  | k :: ks, ks', vs, vs', h, h' => by
    simp only [fits] at h
    obtain ⟨v, r, rfl, h1, h2⟩ := h
    simp only [List.cons_append, fits]
    exact ⟨v, r ++ vs', rfl, h1, fits_append h2 h'⟩

def shpFs (P : Program) (sh : TypeId → Option (List Cs)) : Nat → List Field → Option (List Cs)
  | _, [] => some []
  | o, f :: fs => if f.offset == o then match sh f.type with
    | some ks => if P.cellsOf f.type == ks.length then match shpFs P sh (o + ks.length) fs with
      | some r => some (ks ++ r)
      | none => none
      else none
    | none => none
    else none
def shpRep (ks : List Cs) : Nat → List Cs
  | 0 => []
  | n + 1 => ks ++ shpRep ks n

def shp (P : Program) : Nat → TypeId → Option (List Cs)
  | 0, _ => none
  | d + 1, t => match P.underlying t with
    | some (.int k) => some [Cs.int k]
    | some .bool => some [.bool]
    | some .string => some [.str]
    | some (.struct fs) => match shpFs P (shp P d) 0 fs.toList with
      | some ks => if P.cellsOf t == ks.length then some ks else none
      | none => none
    | some (.array n e) => match shp P d e with
      | some ks => if P.cellsOf e == ks.length && P.cellsOf t == n * ks.length then some (shpRep ks n) else none
      | none => none
    | some (.slice e) => match shp P d e with
      | some ks => if P.cellsOf e == ks.length && Nat.blt 0 ks.length then some [.sl (P.bytesOf e) ks] else none
      | none => none
    | _ => none

section
variable {H : Type} {enc : TypeId × Value → H} {P : Program} {w : World} {sp : Nat → Bool}

theorem cells_of {a : Addr} {n : Nat} {cs : List Value} (h : w.cells? 0 a n = some cs) (hn : 0 < n) : ∃ c, a.spot = none ∧ Blk w.heap a.block c ∧ a.off + n ≤ c.length ∧ (c.drop a.off).take n = cs := by
  obtain ⟨_, hl, hat⟩ := World.cells?_some h
  have hj : ∀ j, j < n → w.cell? (a.add j) = cs[j]? := fun j hj => by
    exact hat j hj
  have h0 := hj 0 hn
  have e0 : a.add 0 = a := by simp [Addr.add]
  rw [e0, List.getElem?_eq_getElem (by omega)] at h0
  unfold World.cell? at h0
  split at h0
  case h_2 => cases h0
  rename_i c T fr hb
  split at h0
  · cases h0
  rename_i hsp
  have hsp' : a.spot = none := by simpa using hsp
  have hblk : Blk w.heap a.block c.toList := ⟨T, fr, by simpa using hb⟩
  have hcell : ∀ j, j < n → c.toList[a.off + j]? = cs[j]? := by
    intro j hjn
    rw [← hj j hjn]
    have : a.add j = ⟨a.block, a.off + j, none⟩ := by
      unfold Addr.add
      split
      · rename_i hz; subst hz; cases a; simp at hsp'; simp [hsp']
      · rfl
    rw [this, cell_blk rfl hblk]
  have hlen : a.off + n ≤ c.toList.length := by
    have := hcell (n - 1) (by omega)
    rw [List.getElem?_eq_getElem (by omega : n - 1 < cs.length)] at this
    have h2 := (List.getElem?_eq_some_iff.1 this).1
    omega
  refine ⟨c.toList, hsp', hblk, hlen, ?_⟩
  apply List.ext_getElem?
  intro j
  rw [List.getElem?_take]
  split
  · rename_i hlt; rw [List.getElem?_drop, hcell j hlt]
  · rename_i hge; rw [List.getElem?_eq_none (by omega)]

theorem fits_fs (fuel : Nat) (sh : TypeId → Option (List Cs)) (ih : ∀ t ks cs x, sh t = some ks → DataW.trod enc P w 0 sp true fuel t cs = some x → (x.1.weights P t).all (· ≤ reachBytes) = true → fits w.heap ks cs) :
    ∀ (fs : List Field) (o : Nat) (ks : List Cs), shpFs P sh o fs = some ks → ∀ (cs : List Value) xs, (fs.mapM fun f => DataW.trod enc P w 0 sp true fuel f.type ((cs.drop f.offset).take (P.cellsOf f.type))) = some xs →
      (DataW.weightsEach P (fs.map (·.type)) (xs.map (·.1))).all (· ≤ reachBytes) = true → o + ks.length = cs.length → fits w.heap ks (cs.drop o)
  | [], o, ks, h, cs, xs, hx, hw, hl => by
    cases h
    have : cs.drop o = [] := by simp at hl ⊢; omega
    rw [this]; simp [fits]
  | f :: fs, o, ks, h, cs, xs, hx, hw, hl => by
    simp only [shpFs] at h
    split at h
    case isFalse => cases h
    rename_i ho
    split at h
    case h_2 => cases h
    rename_i k1 hk1
    split at h
    case isFalse => cases h
    rename_i hsz
    split at h
    case h_2 => cases h
    rename_i r hr
    cases h
    have ho' : f.offset = o := by simpa using ho
    have hsz' : P.cellsOf f.type = k1.length := by simpa using hsz
    rw [List.mapM_cons] at hx
    simp only [Option.bind_eq_bind, Option.bind_eq_some_iff, Option.pure_def, Option.some.injEq] at hx
    obtain ⟨x, hx1, ys, hys, rfl⟩ := hx
    simp only [List.map_cons, DataW.weightsEach, List.all_append, Bool.and_eq_true] at hw
    simp only [List.length_append] at hl
    have h1 := ih _ _ _ _ hk1 hx1 hw.1
    have h2 := fits_fs fuel sh ih fs (o + k1.length) r hr cs ys hys hw.2 (by omega)
    rw [ho', hsz'] at h1
    have := fits_append h1 h2
    rw [← List.drop_drop, List.take_append_drop] at this
    exact this

theorem fits_items (fuel : Nat) (e : TypeId) (ks : List Cs) (hks : P.cellsOf e = ks.length) (ih : ∀ cs x, DataW.trod enc P w 0 sp true fuel e cs = some x → (x.1.weights P e).all (· ≤ reachBytes) = true → fits w.heap ks cs) (cs : List Value) :
    ∀ (n j : Nat) xs, ((List.range' j n).mapM fun i => DataW.trod enc P w 0 sp true fuel e ((cs.drop (i * P.cellsOf e)).take (P.cellsOf e))) = some xs → (DataW.weightsAll P e (xs.map (·.1))).all (· ≤ reachBytes) = true →
      (j + n) * ks.length = cs.length → fits w.heap (shpRep ks n) (cs.drop (j * ks.length))
  | 0, j, xs, hx, hw, hl => by
    have : cs.drop (j * ks.length) = [] := by simp at hl ⊢; omega
    rw [this]; simp [shpRep, fits]
  | n + 1, j, xs, hx, hw, hl => by
    rw [List.range'_succ, List.mapM_cons] at hx
    simp only [Option.bind_eq_bind, Option.bind_eq_some_iff, Option.pure_def, Option.some.injEq] at hx
    obtain ⟨x, hx1, ys, hys, rfl⟩ := hx
    simp only [List.map_cons, DataW.weightsAll, List.all_append, Bool.and_eq_true] at hw
    have h1 := ih _ _ hx1 hw.1
    have hmul : (j + (n + 1)) * ks.length = (j + 1 + n) * ks.length := by congr 1; omega
    have h2 := fits_items fuel e ks hks ih cs n (j + 1) ys hys hw.2 (by omega)
    rw [hks] at h1
    have := fits_append h1 h2
    rw [show (j + 1) * ks.length = j * ks.length + ks.length from by rw [Nat.add_mul]; omega, ← List.drop_drop, List.take_append_drop] at this
    exact this

theorem mapM_some {α β : Type} {f : α → Option β} : ∀ {l : List α} {r : List β}, l.mapM f = some r → r.length = l.length ∧ ∀ i (h : i < l.length) (h' : i < r.length), f l[i] = some r[i]
  | [], r, h => by cases h; exact ⟨rfl, fun i h => by simp at h⟩
  | a :: l, r, h => by
    rw [List.mapM_cons] at h
    simp only [Option.bind_eq_bind, Option.bind_eq_some_iff, Option.pure_def, Option.some.injEq] at h
    obtain ⟨x, hx, ys, hys, rfl⟩ := h
    obtain ⟨h1, h2⟩ := mapM_some hys
    refine ⟨by simp [h1], fun i hi hi' => ?_⟩
    cases i with
    | zero => exact hx
    | succ i => exact h2 i (by simpa using hi) (by simpa using hi')

theorem weightsAll_mem {e : TypeId} : ∀ {ds : List (DataW H)}, (DataW.weightsAll P e ds).all (· ≤ reachBytes) = true → ∀ d ∈ ds, (d.weights P e).all (· ≤ reachBytes) = true
  | [], _, d, h => by cases h
  | a :: ds, hw, d, h => by
    simp only [DataW.weightsAll, List.all_append, Bool.and_eq_true] at hw
    cases h with
    | head => exact hw.1
    | tail _ h => exact weightsAll_mem hw.2 d h

theorem trod_fits : ∀ (d fuel : Nat) (t : TypeId) (ks : List Cs) (cs : List Value) (x : DataW H × List MemPlace), shp P d t = some ks → DataW.trod enc P w 0 sp true fuel t cs = some x →
    (x.1.weights P t).all (· ≤ reachBytes) = true → fits w.heap ks cs
  | 0, _, _, _, _, _, h, _, _ => by cases h
  | _ + 1, 0, _, _, _, _, _, h, _ => by simp [DataW.trod] at h
  | d + 1, fuel + 1, t, ks, cs, x, h, hx, hw => by
    simp only [shp] at h
    split at h
    · rename_i k hu
      cases h
      unfold DataW.trod at hx
      split at hx <;> rename_i hh <;> (try (rw [hu] at hh; cases hh))
      all_goals (first | (cases hx; done) | skip)
      split at hx
      · rename_i hc
        obtain ⟨rfl, hwf⟩ := hc
        simp only [fits, fitc]
        exact ⟨_, [], rfl, ⟨_, rfl, hwf⟩, rfl⟩
      · cases hx
    · rename_i hu
      cases h
      unfold DataW.trod at hx
      split at hx <;> rename_i hh <;> (try (rw [hu] at hh; cases hh))
      all_goals (first | (cases hx; done) | skip)
      all_goals
        simp only [fits, fitc]
        exact ⟨_, [], rfl, ⟨_, rfl⟩, rfl⟩
    · rename_i hu
      cases h
      unfold DataW.trod at hx
      split at hx <;> rename_i hh <;> (try (rw [hu] at hh; cases hh))
      all_goals (first | (cases hx; done) | skip)
      split at hx
      · cases hx
        simp only [DataW.weights, List.all_cons, List.all_nil, Bool.and_true, decide_eq_true_eq] at hw
        simp only [fits, fitc]
        exact ⟨_, [], rfl, ⟨_, rfl, by simpa using hw⟩, rfl⟩
      · cases hx
    · rename_i fs hu
      split at h
      case h_2 => cases h
      rename_i ks' hk
      split at h
      case isFalse => cases h
      rename_i hsz
      cases h
      unfold DataW.trod at hx
      split at hx <;> rename_i hh <;> (try (rw [hu] at hh; cases hh))
      all_goals (first | (cases hx; done) | skip)
      split at hx
      case isFalse => cases hx
      rename_i hlen
      simp only [Option.map_eq_some_iff] at hx
      obtain ⟨xs, hxs, rfl⟩ := hx
      have hsz' : P.cellsOf t = ks.length := by simpa using hsz
      have hw' : (DataW.weightsEach P (fs.toList.map (·.type)) (xs.map (·.1))).all (· ≤ reachBytes) = true := by
        simpa only [DataW.weights, hu] using hw
      have := fits_fs fuel (shp P d) (fun t ks cs x h1 h2 h3 => trod_fits d fuel t ks cs x h1 h2 h3) fs.toList 0 ks hk _ xs hxs hw' (by omega)
      simpa using this
    · rename_i n e hu
      split at h
      case h_2 => cases h
      rename_i k1 hk
      split at h
      case isFalse => cases h
      rename_i hsz
      cases h
      unfold DataW.trod at hx
      split at hx <;> rename_i hh <;> (try (rw [hu] at hh; cases hh))
      all_goals (first | (cases hx; done) | skip)
      split at hx
      case isFalse => cases hx
      rename_i hlen
      simp only [Option.map_eq_some_iff] at hx
      obtain ⟨xs, hxs, rfl⟩ := hx
      simp only [Bool.and_eq_true, beq_iff_eq] at hsz
      have hw' : (DataW.weightsAll P e (xs.map (·.1))).all (· ≤ reachBytes) = true := by
        simpa only [DataW.weights, hu] using hw
      rw [List.range_eq_range'] at hxs
      have := fits_items fuel e k1 hsz.1 (fun cs x h2 h3 => trod_fits d fuel e k1 cs x hk h2 h3) _ n 0 xs hxs hw' (by rw [hlen, hsz.2]; simp)
      simpa using this
    · rename_i e hu
      split at h
      case h_2 => cases h
      rename_i k1 hk
      split at h
      case isFalse => cases h
      rename_i hsz
      cases h
      simp only [Bool.and_eq_true, beq_iff_eq] at hsz
      obtain ⟨hce, hpos⟩ := hsz
      have hpos' : 0 < k1.length := by simpa [Nat.blt_eq] using hpos
      unfold DataW.trod at hx
      split at hx <;> rename_i hh <;> (try (rw [hu] at hh; cases hh))
      all_goals (first | (cases hx; done) | skip)
      · simp only [fits, fitc]
        exact ⟨_, [], rfl, ⟨none, 0, 0, rfl, Nat.le_refl _, Nat.zero_le _, by simp, fun _ => rfl, .inl rfl⟩, rfl⟩
      · rename_i a len cap
        split at hx
        case isFalse => cases hx
        rename_i hc
        obtain ⟨_, hlc, hcm⟩ := hc
        simp only [Option.bind_eq_some_iff, Option.map_eq_some_iff] at hx
        obtain ⟨elems, hel, rest, hrest, rfl⟩ := hx
        simp only [DataW.weights, hu, List.all_cons, List.all_append, Bool.and_eq_true, decide_eq_true_eq] at hw
        obtain ⟨hw1, hw2, hw3⟩ := hw
        obtain ⟨hlen, hat⟩ := mapM_some hel
        have hlen' : elems.length = len := by simpa using hlen
        simp only [fits, fitc]
        refine ⟨_, [], rfl, ⟨some a, len, cap, rfl, hlc, hcm, ?_, (fun h => by cases h), ?_⟩, rfl⟩
        · simp only [List.length_map] at hw1
          rw [hlen'] at hw1
          exact Nat.le_trans (Nat.mul_le_mul_right _ (by omega)) hw1
        · by_cases h0 : len = 0
          · exact .inl h0
          · have key : ∀ i, i < len → ∃ c, (a.add (i * k1.length)).spot = none ∧ Blk w.heap (a.add (i * k1.length)).block c ∧ (a.add (i * k1.length)).off + k1.length ≤ c.length ∧ fits w.heap k1 ((c.drop (a.add (i * k1.length)).off).take k1.length) := by
              intro i hi
              have h1 := hat i (by simpa using hi) (by omega)
              simp only [List.getElem_range, Option.bind_eq_some_iff] at h1
              obtain ⟨cs', hcs, htr⟩ := h1
              rw [hce] at hcs
              obtain ⟨c, h2, h3, h4, h5⟩ := cells_of hcs hpos'
              refine ⟨c, h2, h3, h4, ?_⟩
              rw [h5]
              exact trod_fits d fuel e k1 cs' _ hk htr (weightsAll_mem hw2 _ (List.mem_map.2 ⟨_, List.getElem_mem (by omega), rfl⟩))
            obtain ⟨c, h2, h3, _, _⟩ := key 0 (by omega)
            have e0 : a.add (0 * k1.length) = a := by simp [Addr.add]
            rw [e0] at h2 h3
            have ea : a = ⟨a.block, a.off, none⟩ := by cases a; simp at h2; simp [h2]
            refine .inr ⟨a.block, a.off, c, by rw [← ea], h3, fun i hi => ?_⟩
            obtain ⟨c', _, h6, h7, h8⟩ := key i hi
            have e1 : a.add (i * k1.length) = ⟨a.block, a.off + i * k1.length, none⟩ := by rw [ea, add_lit]
            rw [e1] at h6 h7 h8
            obtain rfl := h6.inj h3
            exact ⟨h7, h8⟩
    · cases h
end
end Go.Fx

namespace Go.Fx
set_option linter.unusedSimpArgs false
set_option linter.unusedVariables false
open Go

section
variable {H : Type} {enc : TypeId × Value → H} {P : Program} {W : World} {base : Nat}

theorem not_agg {t : TypeId} {cs : Array Value} (hu : isAg P t = false) (h : Value.okWide P W .any base t (.agg cs)) : False := by
  unfold Value.okWide at h
  unfold isAg at hu
  split at h
  · rename_i hh; rw [hh] at hu; cases hu
  · rename_i hh; rw [hh] at hu; cases hu
  · unfold Cell.okWide at h
    split at h <;> first | (rename_i e; cases e; done) | skip
    all_goals first | (unfold Cell.ok at h; split at h <;> simp_all; done) | simp_all

theorem arg_fits {t : TypeId} {v : Value} {d : DataW H} {p : List MemPlace} {ks : List Cs} (hv : Value.okWide P W .any base t v) (h : DataW.Trod enc P W 0 (fun _ => true) true t v d p)
    (hw : (d.weights P t).all (· ≤ reachBytes) = true) (hs : shp P 8 t = some ks) : ∃ cs, fits W.heap ks cs ∧ v = vof P t cs := by
  obtain ⟨fuel, hf⟩ := h
  have h1 := trod_fits 8 fuel t ks _ _ hs hf hw
  refine ⟨_, h1, ?_⟩
  unfold vof
  cases hb : isAg P t with
  | true =>
    simp only [if_true]
    unfold Value.okWide at hv
    unfold isAg at hb
    split at hv
    · obtain ⟨cs, rfl, _⟩ := hv; simp [Value.cells]
    · obtain ⟨cs, rfl, _⟩ := hv; simp [Value.cells]
    · split at hb <;> simp_all
  | false =>
    cases v with
    | agg cs => exact (not_agg hb hv).elim
    | _ => simp [Value.cells]

def ArgFits (P : Program) (Hp : Heap) : List TypeId → List Value → Prop
  | [], [] => True
  | t :: ts, v :: vs => (∀ ks, shp P 8 t = some ks → ∃ cs, fits Hp ks cs ∧ v = vof P t cs) ∧ ArgFits P Hp ts vs
  | _, _ => False

theorem args_fit : ∀ {ts : List TypeId} {vs : List Value} {ds : List (DataW H)} {ps : List MemPlace}, DataW.TrodAll enc P W 0 (fun _ => true) true ts vs ds ps →
    (∀ (j : Nat) t v, ts[j]? = some t → vs[j]? = some v → Value.okWide P W .any base t v) → (DataW.weightsEach P ts ds).all (· ≤ reachBytes) = true → ArgFits P W.heap ts vs
  | [], [], [], _, _, _, _ => trivial
  | t :: ts, v :: vs, d :: ds, ps, h, hv, hw => by
    obtain ⟨p, q, h1, h2, rfl⟩ := h
    simp only [DataW.weightsEach, List.all_append, Bool.and_eq_true] at hw
    exact ⟨fun ks hs => arg_fits (hv 0 t v rfl rfl) h1 hw.1 hs, args_fit h2 (fun j t v h1 h2 => hv (j + 1) t v (by simpa using h1) (by simpa using h2)) hw.2⟩
  | [], _ :: _, _, _, h, _, _ => h.elim
  | [], [], _ :: _, _, h, _, _ => h.elim
  | _ :: _, [], _, _, h, _, _ => h.elim
  | _ :: _, _ :: _, [], _, h, _, _ => h.elim

theorem law_open {fn : Func} {args : Array Value} {ds gs : List (DataW H)} {before : List MemPlace} {ts' : List TypeId}
    (hval : ∀ (j : Nat) t v, fn.params[j]? = some t → args[j]? = some v → Value.okWide P W .any base t v)
    (hW : DataW.Whole enc P fn.params.toList [] false W args.toList ds gs before)
    (hsz : (DataW.weightsEach P (fn.params.toList ++ ts') (ds ++ gs)).all (· ≤ reachBytes) = true) : ArgFits P W.heap fn.params.toList args.toList := by
  obtain ⟨p, q, hA, hV, _⟩ := hW
  obtain ⟨rfl, rfl⟩ := ChangeShapes.trodVars_none hV
  refine args_fit hA (fun j t v h1 h2 => hval j t v (by simpa using h1) (by simpa using h2)) ?_
  have hlen := trodAll_length hA
  rw [List.append_nil] at hsz
  have key : ∀ (ts : List TypeId) (ds : List (DataW H)), ds.length = ts.length → DataW.weightsEach P (ts ++ ts') ds = DataW.weightsEach P ts ds := by
    intro ts
    induction ts with
    | nil => intro ds h; have : ds = [] := by simpa using h
             subst this; cases ts' <;> simp [DataW.weightsEach]
    | cons t ts ih =>
      intro ds h
      cases ds with
      | nil => simp at h
      | cons d ds => simp only [List.cons_append, DataW.weightsEach, ih ds (by simpa using h)]
  rw [key _ _ hlen] at hsz
  exact hsz
end

theorem fit_int {H : Heap} {k : IntKind} {cs : List Value} (h : fits H [.int k] cs) : ∃ n, cs = [.int k n] ∧ (Lit.int k n).wf = true := by
  simp only [fits, fitc] at h
  obtain ⟨v, r, rfl, ⟨n, rfl, hw⟩, rfl⟩ := h
  exact ⟨n, rfl, hw⟩
theorem fit_bool {H : Heap} {cs : List Value} (h : fits H [.bool] cs) : ∃ b, cs = [.bool b] := by
  simp only [fits, fitc] at h
  obtain ⟨v, r, rfl, ⟨n, rfl⟩, rfl⟩ := h
  exact ⟨n, rfl⟩
theorem fit_str {H : Heap} {cs : List Value} (h : fits H [.str] cs) : ∃ s, cs = [.string s] ∧ s.size ≤ reachBytes := by
  simp only [fits, fitc] at h
  obtain ⟨v, r, rfl, ⟨n, rfl, hs⟩, rfl⟩ := h
  exact ⟨n, rfl, hs⟩
theorem fit_one {H : Heap} {k : Cs} {cs : List Value} (h : fits H [k] cs) : ∃ v, cs = [v] ∧ fitc H k v := by
  simp only [fits] at h
  obtain ⟨v, r, rfl, h1, rfl⟩ := h
  exact ⟨v, rfl, h1⟩
theorem fit_ints {H : Heap} {k : IntKind} : ∀ {m : Nat} {cs : List Value}, fits H (List.replicate m (.int k)) cs → ∃ xs : List Int, cs = xs.map (Value.int k) ∧ xs.length = m ∧ ∀ x ∈ xs, (Lit.int k x).wf = true
  | 0, cs, h => by
    simp only [List.replicate_zero, fits] at h
    exact ⟨[], by simpa using h, rfl, by simp⟩
  | m + 1, cs, h => by
    simp only [List.replicate_succ, fits, fitc] at h
    obtain ⟨v, r, rfl, ⟨n, rfl, hw⟩, h2⟩ := h
    obtain ⟨xs, rfl, hl, hx⟩ := fit_ints h2
    exact ⟨n :: xs, rfl, by simp [hl], by simpa using ⟨hw, hx⟩⟩


def SlT {α : Type} (H : Heap) (enc : α → List Value) (n : Nat) (v : Value) (L : List α) : Prop :=
  ∃ A cap, v = .slice A L.length cap ∧ L.length ≤ cap ∧ cap ≤ maxLen ∧ (A = none → cap = 0) ∧ (L.length = 0 ∨ ∃ b o c, A = some ⟨b, o, none⟩ ∧ Blk H b c ∧ ∀ i (h : i < L.length), o + i * n + n ≤ c.length ∧ (c.drop (o + i * n)).take n = enc L[i])

theorem SlT.but {α : Type} {H H' : Heap} {S : Nat → Prop} {enc : α → List Value} {n : Nat} {v : Value} {L : List α} (h : SlT H enc n v L) (he : But S H H') (hs : ∀ b, v.ownBlock = some b → ¬ S b) : SlT H' enc n v L := by
  obtain ⟨A, cap, rfl, h1, h2, h0, h3⟩ := h
  refine ⟨A, cap, rfl, h1, h2, h0, h3.imp id ?_⟩
  rintro ⟨b, o, c, rfl, hb, h4⟩
  exact ⟨b, o, c, rfl, hb.but he (hs b rfl), h4⟩
theorem SlT.ext {α : Type} {H H' : Heap} {enc : α → List Value} {n : Nat} {v : Value} {L : List α} (h : SlT H enc n v L) (he : Ext H H') : SlT H' enc n v L :=
  h.but (S := fun _ => False) he.but (fun _ _ h => h)

theorem SlT.of_fits {α : Type} {H : Heap} {enc : α → List Value} {by' : Nat} {els : List Cs} {v : Value} (h : fitc H (.sl by' els) v) {p : α → Prop} (hd : ∀ cs, fits H els cs → ∃ x : α, p x ∧ cs = enc x) :
    ∃ L : List α, (∀ x ∈ L, p x) ∧ SlT H enc els.length v L ∧ L.length * by' ≤ reachBytes := by
  simp only [fitc] at h
  obtain ⟨A, len, cap, rfl, h1, h2, h3, hn, h4⟩ := h
  by_cases h0 : len = 0
  · subst h0
    exact ⟨[], by simp, ⟨A, cap, rfl, h1, h2, hn, .inl rfl⟩, by simp⟩
  · obtain ⟨b, o, c, rfl, hb, hf⟩ := h4.resolve_left h0
    have hx : ∀ i, i < len → ∃ x : α, p x ∧ (c.drop (o + i * els.length)).take els.length = enc x := fun i hi => hd _ (hf i hi).2
    have : Nonempty α := ⟨(hx 0 (by omega)).choose⟩
    have hg : ∃ g : Nat → α, ∀ i, i < len → p (g i) ∧ (c.drop (o + i * els.length)).take els.length = enc (g i) := by
      refine ⟨fun i => if h : i < len then (hx i h).choose else Classical.choice this, fun i hi => ?_⟩
      simp only [hi, dif_pos]
      exact (hx i hi).choose_spec
    obtain ⟨g, hg⟩ := hg
    refine ⟨(List.range len).map g, (fun x hx => by obtain ⟨i, hi, rfl⟩ := List.mem_map.1 hx; exact (hg i (by simpa using hi)).1), ⟨_, cap, by simp, by simpa using h1, h2, hn, .inr ⟨b, o, c, rfl, hb, fun i hi => ?_⟩⟩, by simpa using h3⟩
    have hi' : i < len := by simpa using hi
    refine ⟨(hf i hi').1, ?_⟩
    rw [(hg i hi').2]
    simp

theorem SlT.at {α : Type} {H : Heap} {enc : α → List Value} {n : Nat} {A : Option Addr} {len cap : Nat} {L : List α} (h : SlT H enc n (.slice A len cap) L) {i : Nat} (hi : i < L.length) :
    ∃ b o c, A = some ⟨b, o, none⟩ ∧ Blk H b c ∧ o + i * n + n ≤ c.length ∧ (c.drop (o + i * n)).take n = enc L[i] := by
  obtain ⟨A', cap', e, _, _, _, h4⟩ := h
  cases e
  rcases h4 with h4 | ⟨b, o, c, rfl, hb, h5⟩
  · omega
  · exact ⟨b, o, c, rfl, hb, (h5 i hi).1, (h5 i hi).2⟩

theorem flat_at {α : Type} {f : α → List Value} {n : Nat} : ∀ (L : List α) (i : Nat), (∀ x ∈ L, (f x).length = n) → ∀ h : i < L.length, ((L.flatMap f).drop (i * n)).take n = f L[i]
  | [], i, _, h => by simp at h
  | x :: L, 0, hn, _ => by
    have := hn x List.mem_cons_self
    rw [Nat.zero_mul, List.drop_zero, List.flatMap_cons, List.take_append_of_le_length (by omega), List.take_of_length_le (by omega)]
    rfl
  | x :: L, i + 1, hn, h => by
    have h1 := hn x List.mem_cons_self
    have := flat_at L i (fun y hy => hn y (List.mem_cons_of_mem _ hy)) (by simpa using h)
    rw [List.flatMap_cons, Nat.add_mul, Nat.one_mul, List.drop_append, List.drop_of_length_le (by omega), List.nil_append, show i * n + n - (f x).length = i * n from by omega, this]
    simp

end Go.Fx

namespace Go.Fx
set_option linter.unusedSimpArgs false
set_option linter.unusedVariables false
open Go

abbrev I (n : Int) : Value := .int .i64 n
abbrev ptr (b o : Nat) : Value := .pointer (some ⟨b, o, none⟩)
abbrev Is (xs : List Int) : List Value := xs.map (Value.int .i64)
theorem at_Is {xs : List Int} {o : Nat} (h : o < xs.length) : (Is xs)[o]? = some (I (xs.getD o 0)) := by
  simp [Is, List.getElem?_eq_getElem h]
theorem Is_set {xs : List Int} {o : Nat} {n : Int} : (Is xs).set o (I n) = Is (xs.set o n) := by simp [Is, List.map_set]
theorem ones_Is (x : List Int) : ones (Is x) = true := by simp [ones, Is, Value.oneCell']
theorem Ext.trBut {A B C : Heap} {S : Nat → Prop} (h : Ext A B) (k : But S B C) (hs : ∀ b, b < A.size → ¬ S b) : Ext A C :=
  ⟨Nat.le_trans h.1 k.1, fun b hb => (k.2 b (Nat.lt_of_lt_of_le hb h.1) (hs b hb)).trans (h.2 b hb)⟩
theorem at_tk {c vs : List Value} {o m j : Nat} {v : Value} (h : (c.drop o).take m = vs) (hj : j < m) (hv : vs[j]? = some v) : c[o + j]? = some v := by
  rw [← h, List.getElem?_take, if_pos hj, List.getElem?_drop] at hv; exact hv
theorem take_mid {c xs : List Value} {M o m : Nat} (h : c.take M = xs) (hle : o + m ≤ M) : (c.drop o).take m = (xs.drop o).take m := by
  rw [← h, List.drop_take, List.take_take, Nat.min_eq_left (by omega)]
theorem all_take {α : Type} {L : List α} {p : α → Bool} {i : Nat} (hi : i < L.length) : (L.take (i + 1)).all p = ((L.take i).all p && p L[i]) := by
  rw [List.take_succ_eq_append_getElem hi, List.all_append]; simp
theorem all_of_take {α : Type} {L : List α} {p : α → Bool} {i : Nat} (hi : i < L.length) (h : p L[i] = false) : L.all p = false := by
  cases hh : L.all p with
  | false => rfl
  | true => rw [List.all_eq_true] at hh; rw [hh _ (List.getElem_mem hi)] at h; cases h
theorem dropL {α : Type} {L : List α} {i : Nat} (h : i < L.length) : L.drop i = L[i] :: L.drop (i + 1) := List.drop_eq_getElem_cons h
theorem whole {c : List Value} {n : Nat} (h : c.length = n) : (c.drop 0).take n = c := by rw [List.drop_zero, List.take_of_length_le (by omega)]
theorem over {z c : List Value} {n : Nat} (h : z.length = n) : z.take 0 ++ c ++ z.drop (0 + n) = c := by rw [List.take_zero, List.nil_append, List.drop_of_length_le (by omega), List.append_nil]

theorem ones_flat (L : List (List Int)) : ones (L.flatMap Is) = true := by
  simp only [ones, List.all_eq_true, List.mem_flatMap]
  rintro v ⟨x, _, hv⟩
  have := ones_Is x
  simp only [ones, List.all_eq_true] at this
  exact this v hv
section
variable {α : Type} {enc : α → List Value} {n : Nat} {L : List α}
abbrev Wide (enc : α → List Value) (n : Nat) (L : List α) : Prop := ∀ x ∈ L, (enc x).length = n

theorem sl_at (hL : Wide enc n L) {H : Heap} {A : Option Addr} {cap : Nat} (hS : SlT H enc n (.slice A L.length cap) L) {i : Nat} (hi : i < L.length) :
    ∃ b o c, A = some ⟨b, o, none⟩ ∧ Blk H b c ∧ (c.drop (o + i * n)).take n = enc L[i] ∧ (enc L[i]).length = n := by
  obtain ⟨b, o, c, h1, h2, h3, h4⟩ := hS.at hi
  exact ⟨b, o, c, h1, h2, h4, hL _ (List.getElem_mem hi)⟩
theorem flat_len : ∀ {L : List α} (hL : Wide enc n L), (L.flatMap enc).length = L.length * n
  | [], _ => by simp
  | x :: L, h => by
    rw [List.flatMap_cons, List.length_append, flat_len (fun y hy => h y (List.mem_cons_of_mem _ hy)), h x List.mem_cons_self, List.length_cons, Nat.add_mul]; omega
theorem all_cells {c : List Value} : ∀ (L : List α) (o : Nat), Wide enc n L →
    (∀ i (h : i < L.length), o + i * n + n ≤ c.length ∧ (c.drop (o + i * n)).take n = enc L[i]) → (c.drop o).take (L.length * n) = L.flatMap enc
  | [], o, _, _ => by simp
  | x :: L, o, hL, h => by
    have h0 := h 0 (by simp)
    simp only [Nat.zero_mul, Nat.add_zero, List.getElem_cons_zero] at h0
    have ih := all_cells L (o + n) (fun y hy => hL y (List.mem_cons_of_mem _ hy)) (fun i hi => by
      have := h (i + 1) (by simpa using hi)
      simp only [List.getElem_cons_succ] at this
      rw [show o + n + i * n = o + (i + 1) * n from by rw [Nat.add_mul]; omega]
      exact this)
    rw [List.flatMap_cons, ← h0.2, ← ih, List.length_cons, Nat.add_mul, Nat.one_mul, Nat.add_comm (L.length * n) n, List.take_add, List.drop_drop]
theorem sl_src (hL : Wide enc n L) {H : Heap} {v : Value} (h : SlT H enc n v L) : Src H v n L.length (L.flatMap enc) := by
  obtain ⟨A, cap, rfl, _, _, h0, h3⟩ := h
  refine ⟨flat_len hL, A, cap, rfl, h0, h3.imp id ?_⟩
  rintro ⟨b, o, c, rfl, hb, h4⟩
  exact ⟨b, o, c, rfl, hb, all_cells L o hL h4⟩
theorem sl_of (hL : Wide enc n L) (hn : 0 < n) {H : Heap} {b o cap : Nat} {c : List Value} (hb : Blk H b c) (h : (c.drop o).take (L.length * n) = L.flatMap enc) (h1 : L.length ≤ cap) (h2 : cap ≤ 9223372036854775807) :
    SlT H enc n (.slice (some ⟨b, o, none⟩) L.length cap) L := by
  have hlen := congrArg List.length h
  rw [List.length_take, List.length_drop, flat_len hL] at hlen
  refine ⟨_, cap, rfl, h1, h2, (fun h => by cases h), ?_⟩
  by_cases h0 : L.length = 0
  · exact .inl h0
  · refine .inr ⟨b, o, c, rfl, hb, fun i hi => ?_⟩
    have e : i * n + n ≤ L.length * n := by rw [← Nat.succ_mul]; exact Nat.mul_le_mul_right n hi
    have h3 : L.length * n ≤ c.length - o := by omega
    refine ⟨?_, ?_⟩
    · have : 0 < L.length * n := Nat.mul_pos (by omega) hn
      omega
    · rw [← List.drop_drop, take_mid h e]
      exact flat_at L i hL hi
theorem sl_new (hL : Wide enc n L) (hn : 0 < n) {H H' : Heap} (h : New H H' (L.flatMap enc)) (h2 : L.length ≤ 9223372036854775807) : SlT H' enc n (.slice (some ⟨H.size, 0, none⟩) L.length L.length) L :=
  sl_of hL hn h.own.blk (by rw [List.drop_zero, List.take_of_length_le (by rw [flat_len hL]; exact Nat.le_refl _)]) (Nat.le_refl _) h2
theorem sl_nil (H : Heap) : SlT H enc n (.slice none 0 0) [] := ⟨none, 0, rfl, Nat.le_refl _, by decide, fun _ => rfl, .inl rfl⟩
theorem own_sl (hL : Wide enc n L) (hn : 0 < n) {H : Heap} {B : Nat} {ty : TypeId} {v : Value} (h : OwnS H B ty n v L.length (L.flatMap enc)) : SlT H enc n v L := by
  obtain ⟨h1, ⟨rfl, h0⟩ | ⟨g, cap, cur, rfl, h2, h3, h4, h5, h6, h7⟩⟩ := h
  · have : L = [] := by simpa using h0
    subst this; exact sl_nil H
  · exact sl_of (o := 0) hL hn ⟨ty, _, by simpa using h3⟩ (by simpa using h7) h4 h5
end
end Go.Fx

namespace Go.Fx
set_option linter.unusedSimpArgs false
set_option linter.unusedVariables false
open Go

theorem Ext.ext {A B C : Heap} (h : Ext A B) (k : Ext B C) : Ext A C := h.trans k
theorem Ext.lt {A B : Heap} (h : Ext A B) : A.size ≤ B.size := h.1
theorem But.lt {S : Nat → Prop} {A B : Heap} (h : But S A B) : A.size ≤ B.size := h.1
theorem Upd.size {H H' : Heap} {b : Nat} {c : List Value} (h : Upd H H' b c) : H'.size = H.size := h.1
theorem Blk.blk {H : Heap} {b : Nat} {c : List Value} (h : Blk H b c) : Blk H b c := h
theorem Own.of {H : Heap} {b : Nat} {c c' : List Value} (h : Own H b c) (e : c = c') : Own H b c' := e ▸ h
theorem New.of_eq {H H' : Heap} {xs : List Value} {el : TypeId} (h : H' = H.push (.cells xs.toArray el (0, 0))) : New H H' xs := ⟨el, h⟩
def ob : Option Addr → Int
  | none => -1
  | some a => a.block
theorem ob_some (b o : Nat) : ob (some ⟨b, o, none⟩) = b := rfl
theorem ob_none : ob none = -1 := rfl
abbrev Gs (H : Heap) (B : Nat) (el : TypeId) (s : Nat) (A : Option Addr) (cap n : Nat) (xs : List Value) : Prop := OwnS H B el s (.slice A n cap) n xs
theorem gs_ob {A : Option Addr} {n cap g : Nat} (h : (Value.slice A n cap).ownBlock = some g) : ob A = g := by
  cases A with
  | none => cases h
  | some a => simp only [Value.ownBlock] at h; simp only [ob]; injection h with h; omega
theorem SlT.nil_any {α : Type} {H H' : Heap} {enc : α → List Value} {n : Nat} {v : Value} {L : List α} (h : SlT H enc n v L) (h0 : L.length = 0) : SlT H' enc n v L := by
  obtain ⟨A, cap, rfl, h1, h2, h3, _⟩ := h
  exact ⟨A, cap, rfl, h1, h2, h3, .inl h0⟩
theorem SlT.via {α : Type} {H H' : Heap} {S : Nat → Prop} {enc : α → List Value} {n len cap : Nat} {A : Option Addr} {L : List α} (h : SlT H enc n (.slice A len cap) L) (he : But S H H') (hs : L.length ≠ 0 → ∀ g : Nat, (g : Int) = ob A → ¬ S g) : SlT H' enc n (.slice A len cap) L := by
  by_cases h0 : L.length = 0
  · exact h.nil_any h0
  · exact h.but he fun g hg => hs h0 g (gs_ob hg).symm
theorem SlT.upw {α : Type} {H H' : Heap} {enc : α → List Value} {n b len cap : Nat} {c : List Value} {A : Option Addr} {L : List α} (h : SlT H enc n (.slice A len cap) L) (u : Upd H H' b c) (hb : L.length = 0 ∨ ob A ≠ b) : SlT H' enc n (.slice A len cap) L :=
  h.via u.but fun h0 g hg e => by subst e; exact (hb.resolve_left h0) hg.symm
theorem SlT.lt {α : Type} {H : Heap} {enc : α → List Value} {n len cap : Nat} {A : Option Addr} {L : List α} (h : SlT H enc n (.slice A len cap) L) : L.length = 0 ∨ (0 ≤ ob A ∧ ob A < H.size) := by
  obtain ⟨A', cap', e, h1, h2, h3, h4 | ⟨b, o, c, rfl, hb, _⟩⟩ := h
  · exact .inl h4
  · cases e; exact .inr ⟨by simp only [ob]; omega, by simp only [ob]; exact Int.ofNat_lt.2 hb.lt⟩
section gs
variable {H H' : Heap} {B : Nat} {el : TypeId} {s : Nat} {A : Option Addr} {cap n : Nat} {xs : List Value}
theorem OwnS.lt (h : OwnS H B el s (.slice A n cap) n xs) : ob A < H.size ∧ (ob A = -1 ∨ (B : Int) ≤ ob A) := by
  obtain ⟨_, ⟨h1, _⟩ | ⟨g, cap, cur, h1, h2, h3, _⟩⟩ := h
  · cases h1; exact ⟨by simp only [ob]; omega, .inl rfl⟩
  · cases h1
    have : g < H.size := by
      rcases Nat.lt_or_ge g H.size with h' | h'
      · exact h'
      · simp [Array.getElem?_eq_none h'] at h3
    simp only [ob]; omega
theorem OwnS.via {S : Nat → Prop} (h : OwnS H B el s (.slice A n cap) n xs) (he : But S H H') (hs : ∀ g : Nat, (g : Int) = ob A → ¬ S g) : OwnS H' B el s (.slice A n cap) n xs :=
  h.but he fun g hg => hs g (gs_ob hg).symm
theorem OwnS.upw {b : Nat} {c : List Value} (h : OwnS H B el s (.slice A n cap) n xs) (u : Upd H H' b c) (hb : ob A ≠ b) : OwnS H' B el s (.slice A n cap) n xs :=
  h.via u.but fun g hg e => by subst e; exact hb hg.symm
theorem Own.upw {b b' : Nat} {c c' : List Value} (h : Own H b c) (u : Upd H H' b' c') (hb : b ≠ b') : Own H' b c := h.upd u hb
theorem Blk.upw {b b' : Nat} {c c' : List Value} (h : Blk H b c) (u : Upd H H' b' c') (hb : b ≠ b') : Blk H' b c := h.upd u hb
theorem Ext.upw {H0 : Heap} {b' : Nat} {c' : List Value} (h : Ext H0 H) (u : Upd H H' b' c') (hb : H0.size ≤ b') : Ext H0 H' := h.upd u hb
theorem OwnS.nilG : OwnS H B el s (.slice none 0 0) 0 [] := OwnS.nil _ _ _ _
theorem Own.via {S : Nat → Prop} {b : Nat} {c : List Value} (h : Own H b c) (he : But S H H') (hb : ¬ S b) : Own H' b c := h.but he hb
theorem Blk.via {S : Nat → Prop} {b : Nat} {c : List Value} (h : Blk H b c) (he : But S H H') (hb : ¬ S b) : Blk H' b c := h.but he hb
theorem Ext.via {S : Nat → Prop} {H0 : Heap} (h : Ext H0 H) (he : But S H H') (hb : ∀ g, g < H0.size → ¬ S g) : Ext H0 H' := h.trBut he hb
end gs
abbrev e1 (x : Int) : List Value := [I x]
theorem wide1 (L : List Int) : Wide e1 1 L := fun _ _ => rfl
theorem ones_e1 (L : List Int) : ones (L.flatMap e1) = true := by
  simp only [ones, List.all_eq_true, List.mem_flatMap]
  rintro v ⟨x, _, hv⟩
  simp only [List.mem_singleton] at hv
  subst hv; rfl
theorem Does.appL {P : Program} {dst : Option Tmp} {ty : TypeId} {pos : String} {aft : Array Edge} {gd : Option (Nat × Bool)} {e : Env} {H : Heap} {x y : Operand} {t el : TypeId} {α : Type} {enc : α → List Value} {s by' B cap : Nat} {A : Option Addr} {u : Value} {L M : List α}
    (ht : appT P t = some (el, s, by')) (hx : ev e x = some (.slice A L.length cap)) (hy : ev e y = some u) (hb1 : 1 ≤ by') (hown : Gs H B el s A cap L.length (L.flatMap enc)) (hM : Wide enc s M) (hsrc : SlT H enc s u M) (h1 : ones (M.flatMap enc) = true)
    (hby : (L.length + M.length) * by' ≤ 140737488355328) (hB : B ≤ H.size) :
    Does P ⟨dst, .call { callee := .builtin .append, args := #[x, y], argTypes := #[t, t] }, ty, pos, aft, gd⟩ e H (fun v' H' => ∃ A' cap', v' = .slice A' (L ++ M).length cap' ∧ Gs H' B el s A' cap' (L ++ M).length ((L ++ M).flatMap enc) ∧
      But (fun g => (g : Int) = ob A) H H' ∧ (ob A' = ob A ∨ ob A' = H.size)) := by
  have h63 : L.length + M.length ≤ maxLen := by
    have : (L.length + M.length) * 1 ≤ (L.length + M.length) * by' := Nat.mul_le_mul_left _ hb1
    rw [show maxLen = 9223372036854775807 from rfl]; omega
  refine (Does.app ht hx hy hown (sl_src hM hsrc) h1 h63 hby hB).mono ?_
  rintro v' H' ⟨ho, hbut, hnil, hbl⟩
  rw [← List.length_append, ← List.flatMap_append] at ho
  have hq : ∃ A' cap', v' = .slice A' (L ++ M).length cap' := by
    obtain ⟨_, ⟨rfl, h0⟩ | ⟨g, cap, cur, rfl, _⟩⟩ := ho
    · exact ⟨none, 0, by rw [h0]⟩
    · exact ⟨_, _, rfl⟩
  obtain ⟨A', cap', rfl⟩ := hq
  refine ⟨A', cap', rfl, ho, hbut.mono ?_, ?_⟩
  · intro b hb h
    exact (gs_ob h).symm
  · cases A' with
    | none =>
      have : A = none := by
        cases A with
        | none => rfl
        | some a =>
          obtain ⟨_, ⟨h, h0⟩ | ⟨g, cap, cur, h, _⟩⟩ := ho
          · simp only [Value.slice.injEq, true_and] at h
            have := (hnil.1 (by rw [h.1, h.2])).1
            cases this
          · cases h
      subst this; exact .inl rfl
    | some a' =>
      have he : (Value.slice (some a') (L ++ M).length cap').ownBlock = some a'.block := rfl
      rcases hbl with h | h
      · rw [he] at h; exact .inl (by rw [gs_ob h.symm]; rfl)
      · rw [he] at h; injection h with h; exact .inr (by simp [ob, h])
def Bks : List (Nat × List Value) → Heap → Prop
  | [], _ => True
  | (b, c) :: r, H => Blk H b c ∧ Bks r H
theorem Bks.cons {b : Nat} {c : List Value} {r : List (Nat × List Value)} {H : Heap} (h : Blk H b c) (hr : Bks r H) : Bks ((b, c) :: r) H := ⟨h, hr⟩
theorem Bks.hd {b : Nat} {c : List Value} {r : List (Nat × List Value)} {H : Heap} (h : Bks ((b, c) :: r) H) : Blk H b c := h.1
theorem Bks.tl {b : Nat} {c : List Value} {r : List (Nat × List Value)} {H : Heap} (h : Bks ((b, c) :: r) H) : Bks r H := h.2
theorem Bks.nil {H : Heap} : Bks [] H := trivial
theorem At.drawE {P : Program} {f : FuncId} {N : Nat} {R : Value → Heap → Prop} {k : List Item} {e : Env} {H : Heap} {ops : Array Oper} {k' : List Item} {m : Nat} {l : List (Nat × List Value)} (h0 : Bks l H) (fs : List Nat) (hm : P.follows .mixedOrders = true) (hh : hd 60 k = .region ops true k') (hi : ops.size = m)
    (h : RegD P ops N (Bks l) fs m (Array.replicate m false) (fun e' H' => At P f N R (k := k') e' H') e H) : At P f N R (k := k) e H := At.draw (Bks l) fs hm hh hi h
end Go.Fx

namespace Go.Fx
set_option linter.unusedSimpArgs false
set_option linter.unusedVariables false
open Go

section
variable {H H' : Heap} {B s cap n : Nat} {A : Option Addr} {xs : List Value}
end
theorem Does.bsl1T {P : Program} {dst : Option Tmp} {ty : TypeId} {pos : String} {aft : Array Edge} {gd : Option (Nat × Bool)} {e : Env} {H : Heap} {t el0 : TypeId} {len : Nat} {parts : List (Nat × Operand)} {vs : List Value} (ht : sl1 P t = true) (hu0 : P.underlying t = some (.slice el0)) (hp : prow 0 parts = true) (hv : evs e (parts.map (·.2)) = some vs) (h1 : onesB vs = true)
    (hl : vs.length = len) (hb : Nat.ble len 16777216 = true) : Does P ⟨dst, .buildSlice t len parts.toArray, ty, pos, aft, gd⟩ e H (fun u H' => u = .slice (some ⟨H.size, 0, none⟩) len len ∧ H' = H.push (.cells vs.toArray el0 (0, 0))) := by
  intro w0 n a hA K Q hK
  unfold sl1 at ht
  split at ht
  case h_2 => cases ht
  rename_i el hu
  obtain rfl : el = el0 := by rw [hu] at hu0; cases hu0; rfl
  split at ht
  case h_2 => cases ht
  rename_i i hi
  simp only [Bool.and_eq_true, beq_iff_eq] at ht
  obtain ⟨hsz, hz⟩ := ht
  split at hz
  case h_2 => cases hz
  rename_i z hzz
  have e1 := hA.evs hv
  rw [List.map_map] at e1
  have e2 := prow_map a.eval 0 parts hp
  have e3 : parts.map (fun p => a.eval p.2) = vs := e1
  rw [e3] at e2
  have hfill : ∀ zs : List Value, zs.length = len → Instr.fill (fun i => some (i * 1, 1)) zs.toArray (parts.map fun p => (p.1, a.eval p.2)) = some vs.toArray := by
    intro zs hzs
    rw [e2]
    have := fill_ones 1 rfl vs [] zs 0 (onesB_cells h1) rfl (by rw [hzs, hl])
    simpa using this
  have hrun : (execOp a.eval ⟨dst, .buildSlice t len parts.toArray, ty, pos, aft, gd⟩).run P (mk w0 H n) = .ok (.value (.slice (some ⟨H.size, 0, none⟩) len len)) (mk w0 (H.push (.cells vs.toArray el)) n) := by
    have hlen : len ≤ 16777216 := by simpa [Nat.ble_eq] using hb
    simp only [execOp, Instr.buildSlice, Sem.run_bind, run_underlying hu, Result.andThen_ok, run_sizeOf' hi, hsz]
    rw [if_neg (by omega)]
    simp only [Sem.run_pure, Result.andThen_ok, Nat.mul_one]
    have key : ∀ zr : Array Value, Instr.fill (fun i => some (i, 1)) (Array.map (fun x => zr[x % zr.size]!) (Array.range len)) (List.map (fun p : Nat × Operand => (p.1, a.eval p.2)) parts) = some vs.toArray := by
      intro zr
      have := hfill ((Array.range len).map (fun x => zr[x % zr.size]!)).toList (by simp)
      simpa only [Nat.mul_one, Array.toArray_toList] using this
    have hz' : (zeroValue el).run P (mk w0 H n) = .ok z (mk w0 H n) := by simp [zeroValue, typeInfo, hi, hzz]
    by_cases h0 : len = 0
    · rw [if_pos h0]
      simp only [Sem.run_bind, Sem.run_pure, Result.andThen_ok, List.map_toArray, key, newRow_run]
    · rw [if_neg h0]
      simp only [Sem.run_bind, Sem.run_pure, Result.andThen_ok, List.map_toArray, key, newRow_run, hz']
  unfold Oper.wp
  rw [hrun]
  exact hK _ _ n ⟨rfl, rfl⟩
end Go.Fx

