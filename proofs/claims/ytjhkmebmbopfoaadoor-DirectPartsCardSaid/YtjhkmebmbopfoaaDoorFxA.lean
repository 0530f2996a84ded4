/-
  A small logic of heaps for walks: what is said of a call is said of the heap alone (draws, tape, streams stay behind 'mk').
-/
import Derived.OrdersHeld
import Derived.WalkKit
namespace Go.Fx
set_option linter.unusedSimpArgs false
set_option linter.unusedVariables false
open Go

abbrev Heap := Array Obj
abbrev Env := List (Nat × Value)

def mk (w : World) (H : Heap) (n : Nat) : World := { w with heap := H, drawn := n }
@[simp] theorem mk_heap (w : World) (H : Heap) (n : Nat) : (mk w H n).heap = H := rfl
theorem mk_self (w : World) : mk w w.heap w.drawn = w := rfl

def lk : Env → Nat → Option Value
  | [], _ => none
  | (i, v) :: e, j => match Nat.beq i j with | true => some v | false => lk e j

def ev (e : Env) : Operand → Option Value
  | .tmp t => lk e t
  | .const v => some v
  | .global g => some (.pointer (some ⟨g, 0, none⟩))
  | .func f => some (.func (.func f) #[] #[])

def evs (e : Env) : List Operand → Option (List Value)
  | [] => some []
  | x :: xs => match ev e x, evs e xs with
    | some v, some vs => some (v :: vs)
    | _, _ => none

def up (d : Option Tmp) (v : Value) (e : Env) : Env := match d with | none => e | some d => (d, v) :: e

def Ag (e : Env) (tm : Array Value) : Prop := ∀ i v, lk e i = some v → tm[i]? = some v

theorem Ag.nil (tm : Array Value) : Ag [] tm := fun _ _ h => by cases h

theorem Ag.ev {e : Env} {a : Act} (h : Ag e a.tmps) {x : Operand} {v : Value} (hx : ev e x = some v) : a.eval x = v := by
  cases x with
  | tmp t =>
    have := h t v hx
    simp only [Act.eval, Array.getD_eq_getD_getElem?, this, Option.getD_some]
  | const c => simpa [Fx.ev, Act.eval] using hx
  | global g => simpa [Fx.ev, Act.eval] using hx
  | func f => simpa [Fx.ev, Act.eval] using hx

theorem Ag.evs {e : Env} {a : Act} (h : Ag e a.tmps) : ∀ {xs : List Operand} {vs : List Value}, evs e xs = some vs → xs.map a.eval = vs
  | [], vs, hx => by simpa [Fx.evs] using hx
  | x :: xs, vs, hx => by
    simp only [Fx.evs] at hx
    split at hx
    · rename_i v vs' h1 h2
      cases hx
      rw [List.map_cons, h.ev h1, h.evs h2]
    · cases hx

def okd (d : Option Tmp) (N : Nat) : Bool := match d with | none => true | some d => Nat.blt d N

theorem Ag.put {e : Env} {a : Act} {N : Nat} (h : Ag e a.tmps) (hN : a.tmps.size = N) {d : Option Tmp} (hd : okd d N = true) (v : Value) :
    Ag (up d v e) (a.put d v).tmps := by
  cases d with
  | none => exact h
  | some d =>
    intro i u hu
    have hd' : d < a.tmps.size := by rw [hN]; simpa [okd, Nat.blt_eq] using hd
    simp only [up, lk] at hu
    simp only [Act.put]
    split at hu
    · rename_i hb
      have : d = i := by simpa using hb
      subst this
      cases hu
      simp [hd']
    · rename_i hb
      have hne : d ≠ i := by
        intro hh; subst hh; simp at hb
      have := h i u hu
      rw [Array.getElem?_setIfInBounds]
      simp [hne, this]

theorem size_put (a : Act) (d : Option Tmp) (v : Value) : (a.put d v).tmps.size = a.tmps.size := by
  cases d <;> simp [Act.put]
theorem defers_put (a : Act) (d : Option Tmp) (v : Value) : (a.put d v).defers = a.defers := by
  cases d <;> simp [Act.put]

/-- every pair of 'small' stands in 'big' -/
def Sub : Env → Env → Prop
  | [], _ => True
  | (i, v) :: s, b => lk b i = some v ∧ Sub s b

theorem Ag.sub : ∀ {s b : Env} {tm : Array Value}, Sub s b → Ag b tm → Ag s tm
  | [], _, _, _, _ => Ag.nil _
  | (i, v) :: s, b, tm, hs, h => by
    intro j u hu
    simp only [lk] at hu
    split at hu
    · rename_i hb
      have : i = j := by simpa using hb
      subst this; cases hu
      exact h _ _ hs.1
    · exact Ag.sub hs.2 h j u hu

/-! ### operations -/

def QK (N : Nat) (w0 : World) (K : Env → Heap → Prop) : Exit → Act → World → Prop
  | .normal, a, w => a.defers = [] ∧ a.tmps.size = N ∧ ∃ e H n, w = mk w0 H n ∧ Ag e a.tmps ∧ K e H
  | _, _, _ => False

/-- Operation o, in environment e, over heap H, comes to some v, H' with C. -/
def Does (P : Program) (o : Oper) (e : Env) (H : Heap) (C : Value → Heap → Prop) : Prop :=
  ∀ (w0 : World) (n : Nat) (a : Act), Ag e a.tmps → ∀ (K : Act → World → Prop) (Q : Exit → Act → World → Prop),
    (∀ v H' n', C v H' → K (a.put o.dst v) (mk w0 H' n')) → o.wp P a (mk w0 H n) K Q

/-- Operation o yields v in whatever world. -/
def Pur (P : Program) (o : Oper) (e : Env) (v : Value) : Prop :=
  ∀ (a : Act) (w : World), Ag e a.tmps → (execOp a.eval o).run P w = .ok (.value v) w

/-- Operation o yields v over heap H and leaves it. -/
def Lod (P : Program) (o : Oper) (e : Env) (H : Heap) (v : Value) : Prop :=
  ∀ (a : Act) (w : World), w.heap = H → Ag e a.tmps → (execOp a.eval o).run P w = .ok (.value v) w

theorem Pur.lod {P : Program} {o : Oper} {e : Env} {v : Value} (h : Pur P o e v) (H : Heap) : Lod P o e H v := fun a w _ hA => h a w hA

theorem Lod.does {P : Program} {o : Oper} {e : Env} {H : Heap} {v : Value} (h : Lod P o e H v) : Does P o e H (fun v' H' => v' = v ∧ H' = H) := by
  intro w0 n a hA K Q hK
  unfold Oper.wp
  rw [h a (mk w0 H n) rfl hA]
  exact hK v H n ⟨rfl, rfl⟩

theorem Does.mono {P : Program} {o : Oper} {e : Env} {H : Heap} {C C' : Value → Heap → Prop} (h : Does P o e H C) (hc : ∀ v H', C v H' → C' v H') : Does P o e H C' :=
  fun w0 n a hA K Q hK => h w0 n a hA K Q fun v H' n' hC => hK v H' n' (hc v H' hC)

/-- A region in its own order. -/
def Reg (P : Program) (ops : Array Oper) (N : Nat) (is : List Nat) (K : Env → Heap → Prop) (e : Env) (H : Heap) : Prop :=
  ∀ (w0 : World) (n : Nat) (a : Act), a.defers = [] → a.tmps.size = N → Ag e a.tmps → wpOps P ops (QK N w0 K) is a (mk w0 H n)

theorem okd_some {o : Oper} {d N : Nat} (h : o.dst = some d) (hN : Nat.blt d N = true) : okd o.dst N = true := by rw [h]; exact hN
theorem up_some {o : Oper} {d : Nat} (h : o.dst = some d) (v : Value) (e : Env) : up o.dst v e = (d, v) :: e := by rw [h]; rfl
theorem up_none {o : Oper} (h : o.dst = none) (v : Value) (e : Env) : up o.dst v e = e := by rw [h]; rfl
theorem okd_none {o : Oper} {N : Nat} (h : o.dst = none) : okd o.dst N = true := by rw [h]; rfl

section reg
variable {P : Program} {ops : Array Oper} {N : Nat} {is : List Nat} {K : Env → Heap → Prop} {e : Env} {H : Heap} {i t : Nat} {o : Oper}

theorem Reg.nil (h : K e H) : Reg P ops N [] K e H := fun _ n _ hd hs hA => ⟨hd, hs, e, H, n, rfl, hA, h⟩

theorem Reg.op' {C : Value → Heap → Prop} (ho : ops[i]? = some o) (hg : o.guard = none) (hd : okd o.dst N = true) (h : Does P o e H C)
    (hk : ∀ v H', C v H' → Reg P ops N is K (up o.dst v e) H') : Reg P ops N (i :: is) K e H := by
  intro w0 n a hdf hs hA
  simp only [wpOps, ho, Region.wanted, hg, if_true]
  exact .inl (h w0 n a hA _ _ fun v H' n' hC => hk v H' hC w0 n' _ (by rw [defers_put]; exact hdf) (by rw [size_put]; exact hs) (hA.put hs hd v))

theorem Reg.lod' {v : Value} (ho : ops[i]? = some o) (hg : o.guard = none) (hd : okd o.dst N = true) (h : Lod P o e H v)
    (hk : Reg P ops N is K (up o.dst v e) H) : Reg P ops N (i :: is) K e H :=
  Reg.op' ho hg hd h.does fun v' H' ⟨h1, h2⟩ => by subst h1; subst h2; exact hk

theorem Reg.pur' {v : Value} (ho : ops[i]? = some o) (hg : o.guard = none) (hd : okd o.dst N = true) (h : Pur P o e v)
    (hk : Reg P ops N is K (up o.dst v e) H) : Reg P ops N (i :: is) K e H := Reg.lod' ho hg hd (h.lod H) hk

theorem yielded_of {a : Act} (hA : Ag e a.tmps) {j d : Nat} {b : Bool} (hj : (ops[j]?).bind (·.dst) = some d) (hb : lk e d = some (.bool b)) :
    yielded ops a.tmps j = some b := by
  unfold yielded
  rw [hj]
  simp only [Option.bind_some, hA d _ hb]

/-- A guarded operation: it is wanted. -/
theorem Reg.gop' {C : Value → Heap → Prop} {j d : Nat} {b : Bool} (ho : ops[i]? = some o) (hg : o.guard = some (j, b)) (hj : (ops[j]?).bind (·.dst) = some d) (hb : lk e d = some (.bool b))
    (hd : okd o.dst N = true) (h : Does P o e H C) (hk : ∀ v H', C v H' → Reg P ops N is K (up o.dst v e) H') : Reg P ops N (i :: is) K e H := by
  intro w0 n a hdf hs hA
  have hy := yielded_of (ops := ops) hA hj hb
  simp only [wpOps, ho, Region.wanted, hg, hy, beq_self_eq_true, if_true]
  exact .inl (h w0 n a hA _ _ fun v H' n' hC => hk v H' hC w0 n' _ (by rw [defers_put]; exact hdf) (by rw [size_put]; exact hs) (hA.put hs hd v))

theorem Reg.glod' {v : Value} {j d : Nat} {b : Bool} (ho : ops[i]? = some o) (hg : o.guard = some (j, b)) (hj : (ops[j]?).bind (·.dst) = some d) (hb : lk e d = some (.bool b))
    (hd : okd o.dst N = true) (h : Lod P o e H v) (hk : Reg P ops N is K (up o.dst v e) H) : Reg P ops N (i :: is) K e H :=
  Reg.gop' ho hg hj hb hd h.does fun v' H' ⟨h1, h2⟩ => by subst h1; subst h2; exact hk

theorem Reg.gpur' {v : Value} {j d : Nat} {b : Bool} (ho : ops[i]? = some o) (hg : o.guard = some (j, b)) (hj : (ops[j]?).bind (·.dst) = some d) (hb : lk e d = some (.bool b))
    (hd : okd o.dst N = true) (h : Pur P o e v) (hk : Reg P ops N is K (up o.dst v e) H) : Reg P ops N (i :: is) K e H := Reg.glod' ho hg hj hb hd (h.lod H) hk

/-- A guarded operation: it is passed over. -/
theorem Reg.skip' {j d : Nat} {b b' : Bool} (ho : ops[i]? = some o) (hg : o.guard = some (j, b)) (hj : (ops[j]?).bind (·.dst) = some d) (hb : lk e d = some (.bool b')) (hne : (b' == b) = false)
    (hd : okd o.dst N = true) (hk : Reg P ops N is K (up o.dst undef e) H) : Reg P ops N (i :: is) K e H := by
  intro w0 n a hdf hs hA
  have hy := yielded_of (ops := ops) hA hj hb
  have hw : Region.wanted o (yielded ops a.tmps) = false := by
    simp only [Region.wanted, hg, hy]
    cases b <;> cases b' <;> simp_all
  simp only [wpOps, ho, hw]
  exact hk w0 n _ (by rw [defers_put]; exact hdf) (by rw [size_put]; exact hs) (hA.put hs hd undef)
end reg

/-! ### regions whose order is drawn -/

/-- Whatever order is picked; S holds behind every operation that is not of F (those of F come behind all that asks for S). -/
def wpF (P : Program) (ops : Array Oper) (Q : Exit → Act → World → Prop) (S : World → Prop) (F : Nat → Bool) : Nat → Array Bool → Act → World → Prop
  | 0, ls, a, w => Region.ready .any ops ls = [] ∧ Q .normal a w
  | fuel + 1, ls, a, w => (Region.ready .any ops ls = [] → Q .normal a w) ∧
    ∀ i ∈ Region.ready .any ops ls, wpOp P ops Q i (fun a' w' => (F i = false → S w → S w') ∧ wpF P ops Q S F fuel (ls.setIfInBounds i true) a' w') a w

section drawn
variable {P : Program} {ops : Array Oper} {Q : Exit → Act → World → Prop} {S : World → Prop} {F : Nat → Bool}

theorem wpF.any : ∀ (fuel : Nat) (ls : Array Bool) (a : Act) (w : World), wpF P ops Q S F fuel ls a w → wpAny P .any ops Q fuel ls a w
  | 0, _, _, _, h => h
  | fuel + 1, _, _, _, h => ⟨h.1, fun i hi => wpOp_mono (fun a' w' h' => wpF.any fuel _ a' w' h'.2) (h.2 i hi)⟩

def waits (ops : Array Oper) (j i : Nat) : Bool := match ops[j]? with
  | some o => o.after.any fun e => Region.binds .any e && e.on == i
  | none => false

theorem wpF.first {i : Nat} {oi : Oper} {v : Value} (hi : ops[i]? = some oi) (hsel : ∀ (j : Nat) (o : Oper) cs b, ops[j]? = some o → o.op ≠ .select cs b)
    (hQ : ∀ c a w, Q (.panic c) (a.put oi.dst v) w → Q (.panic c) a w) (T : World → Prop) (hT : (∀ w, T w) ∨ (T = S ∧ ∀ j, F j = true → waits ops j i = true)) :
    ∀ (fuel : Nat) (ls : Array Bool) (a : Act) (w : World),
      (∀ j oj, ops[j]? = some oj → j ≠ i → ls.getD j true = false → (∀ e ∈ oj.after, Region.binds .any e = true → e.on ≠ i) → oi.apart ops oj = true) →
      i ∈ Region.ready .any ops ls → YieldsIf P ops T oi v a → T w →
      wpF P ops Q S F fuel (ls.setIfInBounds i true) (a.put oi.dst v) w → wpF P ops Q S F (fuel + 1) ls a w := by
  intro fuel
  induction fuel with
  | zero =>
    intro ls a w _ hr hy hTw H
    refine ⟨fun h => (by rw [h] at hr; cases hr), fun j hj => ?_⟩
    by_cases hji : j = i
    · subst hji; exact hy.wpOp hi hTw ⟨fun _ h => h, H⟩
    · have := ready_mono hj hji
      rw [H.1] at this
      cases this
  | succ fuel ih =>
    intro ls a w hfree hr hy hTw H
    refine ⟨fun h => (by rw [h] at hr; cases hr), fun j hj => ?_⟩
    by_cases hji : j = i
    · subst hji; exact hy.wpOp hi hTw ⟨fun _ h => h, H⟩
    · have h1 := H.2 j (ready_mono hj hji)
      obtain ⟨hjun, oj, hoj, hall⟩ := mem_ready.1 hj
      have hnot : ∀ e ∈ oj.after, Region.binds .any e = true → e.on ≠ i := fun e he hb heq => by
        have h1 := hall e he hb
        have h0 := (mem_ready.1 hr).1
        rw [heq] at h1
        rcases Nat.lt_or_ge i ls.size with h' | h'
        · simp [h'] at h0 h1; rw [h0] at h1; cases h1
        · simp [Array.getElem?_eq_none h'] at h1
      have h2 := wpOp_putIf hoj (hfree j oj hoj hji hjun hnot) (fun cs b => hsel i oi cs b hi) (fun cs b => hsel j oj cs b hoj) hQ hy h1
      have hfree' : ∀ k ok, ops[k]? = some ok → k ≠ i → (ls.setIfInBounds j true).getD k true = false →
          (∀ e ∈ ok.after, Region.binds .any e = true → e.on ≠ i) → oi.apart ops ok = true := fun k ok hk hki hun hno => by
        refine hfree k ok hk hki ?_ hno
        by_cases hjk : j = k
        · subst hjk; exact hjun
        · rw [getD_set_ne true hjk] at hun; exact hun
      refine wpOp_mono (fun a' w' h3 => ⟨h3.2.1, ih (ls.setIfInBounds j true) a' w' hfree' (ready_mono hr (Ne.symm hji)) h3.1 ?_ ?_⟩) h2
      · rcases hT with hT | ⟨rfl, hT⟩
        · exact hT w'
        · refine h3.2.1 ?_ hTw
          cases hF : F j with
          | false => rfl
          | true =>
            have := hT j hF
            simp only [waits, hoj, Array.any_eq_true, Bool.and_eq_true, beq_iff_eq] at this
            obtain ⟨k, hk, hb, he⟩ := this
            exact (hnot _ (Array.getElem_mem hk) hb he).elim
      · rw [Array.setIfInBounds_comm _ _ hji]
        exact h3.2.2

theorem wpF.done {ls : Array Bool} {a : Act} {w : World} (hr : Region.ready .any ops ls = []) (h : Q .normal a w) : ∀ fuel, wpF P ops Q S F fuel ls a w
  | 0 => ⟨hr, h⟩
  | _ + 1 => ⟨fun _ => h, by rw [hr]; simp⟩
end drawn

/-- A region whose order is drawn, over heaps. fs: the operations that come behind all loads. -/
def RegD (P : Program) (ops : Array Oper) (N : Nat) (S : Heap → Prop) (fs : List Nat) (fuel : Nat) (ls : Array Bool) (K : Env → Heap → Prop) (e : Env) (H : Heap) : Prop :=
  ∀ (w0 : World) (n : Nat) (a : Act), a.defers = [] → a.tmps.size = N → Ag e a.tmps →
    wpF P ops (QK N w0 K) (fun w => S w.heap) (fun i => fs.contains i) fuel ls a (mk w0 H n)

section regD
variable {P : Program} {ops : Array Oper} {N : Nat} {S : Heap → Prop} {fs : List Nat} {fuel : Nat} {ls : Array Bool} {K : Env → Heap → Prop} {e : Env} {H : Heap} {i t : Nat} {o : Oper} {C : Value → Heap → Prop} {v : Value} {j d : Nat} {b b' : Bool}

theorem RegD.done (hr : (Region.ready .any ops ls).isEmpty = true) (h : K e H) : RegD P ops N S fs fuel ls K e H :=
  fun w0 n a hd hs hA => wpF.done (by simpa using hr) ⟨hd, hs, e, H, n, rfl, hA, h⟩ fuel

def plan (ops : Array Oper) (ls : Array Bool) (i : Nat) : Bool :=
  Region.noSelect ops && Region.free .any ops ls i && (Region.ready .any ops ls).contains i
def planL (ops : Array Oper) (fs : List Nat) (ls : Array Bool) (i : Nat) : Bool := plan ops ls i && fs.all fun j => waits ops j i

theorem RegD.raw (T : World → Prop) (hT : (∀ w, T w) ∨ (T = (fun w => S w.heap) ∧ ∀ j, fs.contains j = true → waits ops j i = true)) (ho : ops[i]? = some o) (hd : o.dst = some t) (hN : Nat.blt t N = true) (hp : plan ops ls i = true)
    (hTw : ∀ w, w.heap = H → T w) (hy : ∀ a : Act, Ag e a.tmps → YieldsIf P ops T o v a) (hk : RegD P ops N S fs fuel (ls.setIfInBounds i true) K ((t, v) :: e) H) : RegD P ops N S fs (fuel + 1) ls K e H := by
  intro w0 n a hdf hs hA
  simp only [plan, Bool.and_eq_true] at hp
  refine wpF.first ho (Region.noSelect_spec hp.1.1) (fun _ _ _ h => h.elim) T hT fuel ls a _ (Region.free_spec ho hp.1.2) (by simpa using hp.2) (hy a hA) (hTw _ rfl) ?_
  rw [← up_some hd v e] at hk
  exact hk w0 n _ (by rw [defers_put]; exact hdf) (by rw [size_put]; exact hs) (hA.put hs (okd_some hd hN) v)

theorem RegD.tpur (ho : ops[i]? = some o) (hg : o.guard = none) (hd : o.dst = some t) (hN : Nat.blt t N = true) (hp : plan ops ls i = true) (h : Pur P o e v) (hk : RegD P ops N S fs fuel (ls.setIfInBounds i true) K ((t, v) :: e) H) : RegD P ops N S fs (fuel + 1) ls K e H :=
  RegD.raw (fun _ => True) (.inl fun _ => trivial) ho hd hN hp (fun _ _ => trivial) (fun a hA => .inl ⟨by simp [Region.wanted, hg], fun w _ => h a w hA⟩) hk
theorem RegD.gtpur (ho : ops[i]? = some o) (hg : o.guard = some (j, b)) (hj : (ops[j]?).bind (·.dst) = some d) (hb : lk e d = some (.bool b)) (hd : o.dst = some t) (hN : Nat.blt t N = true) (hp : plan ops ls i = true) (h : Pur P o e v) (hk : RegD P ops N S fs fuel (ls.setIfInBounds i true) K ((t, v) :: e) H) : RegD P ops N S fs (fuel + 1) ls K e H :=
  RegD.raw (fun _ => True) (.inl fun _ => trivial) ho hd hN hp (fun _ _ => trivial) (fun a hA => .inl ⟨by have hy := yielded_of (ops := ops) hA hj hb; simp [Region.wanted, hg, hy], fun w _ => h a w hA⟩) hk
theorem RegD.skip (ho : ops[i]? = some o) (hg : o.guard = some (j, b)) (hj : (ops[j]?).bind (·.dst) = some d) (hb : lk e d = some (.bool b')) (hne : (b' == b) = false) (hd : o.dst = some t) (hN : Nat.blt t N = true) (hp : plan ops ls i = true) (hk : RegD P ops N S fs fuel (ls.setIfInBounds i true) K ((t, undef) :: e) H) : RegD P ops N S fs (fuel + 1) ls K e H :=
  RegD.raw (fun _ => True) (.inl fun _ => trivial) ho hd hN hp (fun _ _ => trivial) (fun a hA => .inr ⟨by
    have hy := yielded_of (ops := ops) hA hj hb
    simp only [Region.wanted, hg, hy]
    cases b <;> cases b' <;> simp_all, rfl⟩) hk
theorem planL_spec (hp : planL ops fs ls i = true) : plan ops ls i = true ∧ ∀ j, fs.contains j = true → waits ops j i = true := by
  simp only [planL, Bool.and_eq_true, List.all_eq_true] at hp
  exact ⟨hp.1, fun j hj => hp.2 j (by simpa using hj)⟩
theorem RegD.take (ho : ops[i]? = some o) (hg : o.guard = none) (hd : o.dst = some t) (hN : Nat.blt t N = true) (hp : planL ops fs ls i = true) (hS : S H) (h : ∀ H, S H → Lod P o e H v) (hk : RegD P ops N S fs fuel (ls.setIfInBounds i true) K ((t, v) :: e) H) : RegD P ops N S fs (fuel + 1) ls K e H :=
  RegD.raw (fun w => S w.heap) (.inr ⟨rfl, (planL_spec hp).2⟩) ho hd hN (planL_spec hp).1 (fun w hw => by rw [hw]; exact hS) (fun a hA => .inl ⟨by simp [Region.wanted, hg], fun w hw => h w.heap hw a w rfl hA⟩) hk
theorem RegD.gtake (ho : ops[i]? = some o) (hg : o.guard = some (j, b)) (hj : (ops[j]?).bind (·.dst) = some d) (hb : lk e d = some (.bool b)) (hd : o.dst = some t) (hN : Nat.blt t N = true) (hp : planL ops fs ls i = true) (hS : S H) (h : ∀ H, S H → Lod P o e H v) (hk : RegD P ops N S fs fuel (ls.setIfInBounds i true) K ((t, v) :: e) H) : RegD P ops N S fs (fuel + 1) ls K e H :=
  RegD.raw (fun w => S w.heap) (.inr ⟨rfl, (planL_spec hp).2⟩) ho hd hN (planL_spec hp).1 (fun w hw => by rw [hw]; exact hS) (fun a hA => .inl ⟨by have hy := yielded_of (ops := ops) hA hj hb; simp [Region.wanted, hg, hy], fun w hw => h w.heap hw a w rfl hA⟩) hk

/-- Just one operation may come up. -/
theorem RegD.one' (hr : (Region.ready .any ops ls == [i]) = true) (ho : ops[i]? = some o) (hw : ∀ a : Act, Ag e a.tmps → Region.wanted o (yielded ops a.tmps) = true) (hd : okd o.dst N = true) (h : Does P o e H C)
    (hk : ∀ v H', C v H' → (fs.contains i = false → S H → S H') ∧ RegD P ops N S fs fuel (ls.setIfInBounds i true) K (up o.dst v e) H') : RegD P ops N S fs (fuel + 1) ls K e H := by
  intro w0 n a hdf hs hA
  have hr' : Region.ready .any ops ls = [i] := by simpa using hr
  refine ⟨fun h0 => (by rw [hr'] at h0; cases h0), fun j hj => ?_⟩
  rw [hr'] at hj
  obtain rfl : j = i := by simpa using hj
  simp only [wpOp, ho, hw a hA, if_true]
  exact .inl (h w0 n a hA _ _ fun v H' n' hC => ⟨(hk v H' hC).1, (hk v H' hC).2 w0 n' _ (by rw [defers_put]; exact hdf) (by rw [size_put]; exact hs) (hA.put hs hd v)⟩)
theorem RegD.one (hr : (Region.ready .any ops ls == [i]) = true) (ho : ops[i]? = some o) (hg : o.guard = none) (hd : o.dst = some t) (hN : Nat.blt t N = true) (h : Does P o e H C) (hk : ∀ v H', C v H' → (fs.contains i = false → S H → S H') ∧ RegD P ops N S fs fuel (ls.setIfInBounds i true) K ((t, v) :: e) H') : RegD P ops N S fs (fuel + 1) ls K e H :=
  RegD.one' hr ho (fun a hA => by simp [Region.wanted, hg]) (okd_some hd hN) h fun v H' hC => by rw [up_some hd]; exact hk v H' hC
theorem RegD.one0 (hr : (Region.ready .any ops ls == [i]) = true) (ho : ops[i]? = some o) (hg : o.guard = none) (hd : o.dst = none) (h : Does P o e H C) (hk : ∀ v H', C v H' → (fs.contains i = false → S H → S H') ∧ RegD P ops N S fs fuel (ls.setIfInBounds i true) K e H') : RegD P ops N S fs (fuel + 1) ls K e H :=
  RegD.one' hr ho (fun a hA => by simp [Region.wanted, hg]) (okd_none hd) h fun v H' hC => by rw [up_none hd]; exact hk v H' hC
theorem RegD.gone (hr : (Region.ready .any ops ls == [i]) = true) (ho : ops[i]? = some o) (hg : o.guard = some (j, b)) (hj : (ops[j]?).bind (·.dst) = some d) (hb : lk e d = some (.bool b)) (hd : o.dst = some t) (hN : Nat.blt t N = true) (h : Does P o e H C) (hk : ∀ v H', C v H' → (fs.contains i = false → S H → S H') ∧ RegD P ops N S fs fuel (ls.setIfInBounds i true) K ((t, v) :: e) H') : RegD P ops N S fs (fuel + 1) ls K e H :=
  RegD.one' hr ho (fun a hA => by have hy := yielded_of (ops := ops) hA hj hb; simp [Region.wanted, hg, hy]) (okd_some hd hN) h fun v H' hC => by rw [up_some hd]; exact hk v H' hC
end regD

section neat
variable {P : Program} {ops : Array Oper} {N : Nat} {is : List Nat} {K : Env → Heap → Prop} {e : Env} {H : Heap} {i t : Nat} {o : Oper} {C : Value → Heap → Prop} {v : Value} {j d : Nat} {b b' : Bool}
theorem Reg.op (ho : ops[i]? = some o) (hg : o.guard = none) (hd : o.dst = some t) (hN : Nat.blt t N = true) (h : Does P o e H C) (hk : ∀ v H', C v H' → Reg P ops N is K ((t, v) :: e) H') : Reg P ops N (i :: is) K e H :=
  Reg.op' ho hg (okd_some hd hN) h fun v H' hC => by rw [up_some hd]; exact hk v H' hC
theorem Reg.op0 (ho : ops[i]? = some o) (hg : o.guard = none) (hd : o.dst = none) (h : Does P o e H C) (hk : ∀ v H', C v H' → Reg P ops N is K e H') : Reg P ops N (i :: is) K e H :=
  Reg.op' ho hg (okd_none hd) h fun v H' hC => by rw [up_none hd]; exact hk v H' hC
theorem Reg.lod (ho : ops[i]? = some o) (hg : o.guard = none) (hd : o.dst = some t) (hN : Nat.blt t N = true) (h : Lod P o e H v) (hk : Reg P ops N is K ((t, v) :: e) H) : Reg P ops N (i :: is) K e H :=
  Reg.lod' ho hg (okd_some hd hN) h (by rw [up_some hd]; exact hk)
theorem Reg.pur (ho : ops[i]? = some o) (hg : o.guard = none) (hd : o.dst = some t) (hN : Nat.blt t N = true) (h : Pur P o e v) (hk : Reg P ops N is K ((t, v) :: e) H) : Reg P ops N (i :: is) K e H :=
  Reg.pur' ho hg (okd_some hd hN) h (by rw [up_some hd]; exact hk)
theorem Reg.gop (ho : ops[i]? = some o) (hg : o.guard = some (j, b)) (hj : (ops[j]?).bind (·.dst) = some d) (hb : lk e d = some (.bool b)) (hd : o.dst = some t) (hN : Nat.blt t N = true) (h : Does P o e H C) (hk : ∀ v H', C v H' → Reg P ops N is K ((t, v) :: e) H') : Reg P ops N (i :: is) K e H :=
  Reg.gop' ho hg hj hb (okd_some hd hN) h fun v H' hC => by rw [up_some hd]; exact hk v H' hC
theorem Reg.glod (ho : ops[i]? = some o) (hg : o.guard = some (j, b)) (hj : (ops[j]?).bind (·.dst) = some d) (hb : lk e d = some (.bool b)) (hd : o.dst = some t) (hN : Nat.blt t N = true) (h : Lod P o e H v) (hk : Reg P ops N is K ((t, v) :: e) H) : Reg P ops N (i :: is) K e H :=
  Reg.glod' ho hg hj hb (okd_some hd hN) h (by rw [up_some hd]; exact hk)
theorem Reg.gpur (ho : ops[i]? = some o) (hg : o.guard = some (j, b)) (hj : (ops[j]?).bind (·.dst) = some d) (hb : lk e d = some (.bool b)) (hd : o.dst = some t) (hN : Nat.blt t N = true) (h : Pur P o e v) (hk : Reg P ops N is K ((t, v) :: e) H) : Reg P ops N (i :: is) K e H :=
  Reg.gpur' ho hg hj hb (okd_some hd hN) h (by rw [up_some hd]; exact hk)
theorem Reg.skip (ho : ops[i]? = some o) (hg : o.guard = some (j, b)) (hj : (ops[j]?).bind (·.dst) = some d) (hb : lk e d = some (.bool b')) (hne : (b' == b) = false) (hd : o.dst = some t) (hN : Nat.blt t N = true) (hk : Reg P ops N is K ((t, undef) :: e) H) : Reg P ops N (i :: is) K e H :=
  Reg.skip' ho hg hj hb hne (okd_some hd hN) (by rw [up_some hd]; exact hk)
end neat

/-! ### points of a function -/

def fb (f : FuncId) : Frame := { (default : Frame) with fn := f, kind := .normal }

def Fin (P : Program) (f : FuncId) (R : Value → Heap → Prop) (w0 : World) (m : Machine) (cs : List Frame) : Prop :=
  ∃ v H' n' fr, R v H' ∧ Steps P m (lone fr cs (mk w0 H' n')) ∧ fr.fn = f ∧ fr.leaving P (mk w0 H' n') (.returned v)

theorem Fin.steps {P : Program} {f : FuncId} {R : Value → Heap → Prop} {w0 : World} {m m' : Machine} {cs : List Frame} (h : Steps P m m') (h' : Fin P f R w0 m' cs) : Fin P f R w0 m cs := by
  obtain ⟨v, H', n', fr, hR, hs, r⟩ := h'
  exact ⟨v, H', n', fr, hR, h.trans hs, r⟩

def At (P : Program) (f : FuncId) (N : Nat) (R : Value → Heap → Prop) {k : List Item} (e : Env) (H : Heap) : Prop :=
  ∀ (w0 : World) (n : Nat) (a : Act) (cs : List Frame), a.defers = [] → a.tmps.size = N → Ag e a.tmps → Fin P f R w0 (lone ((fb f).at a k) cs (mk w0 H n)) cs

inductive Hd where
  | region (ops : Array Oper) (draw : Bool) (k : List Item)
  | cond (c : Operand) (x y : List Item)
  | head (c : Code) (k : List Item)
  | ret
  | fall
  | other

def hd : Nat → List Item → Hd
  | 0, _ => .other
  | _ + 1, [] => .fall
  | n + 1, .code c :: k => match c with
    | .skip => hd n k
    | .label _ => hd n k
    | .seq a b => hd n (.code a :: .code b :: k)
    | .region _ ops dr => .region ops dr k
    | .cond c x y => .cond c (.code x :: k) (.code y :: k)
    | .block id b => hd n (.code b :: .inBlock id :: k)
    | .loop b => .head b k
    | .exit id => match exitTo id k with
      | some k' => hd n k'
      | none => .other
    | .ret => .ret
    | _ => .other
  | n + 1, .inBlock _ :: k => hd n k
  | _ + 1, .inLoop c :: k => .head c k
  | _ + 1, _ => .other

section points
variable {P : Program} {f : FuncId} {N : Nat} {R : Value → Heap → Prop} {k : List Item} {e : Env} {H : Heap}

theorem At.step {k k' : List Item} (hs : ∀ (b : Frame) (a : Act) cs w, step P (lone (b.at a k) cs w) = .next (lone (b.at a k') cs w)) (h : At P f N R (k := k') e H) : At P f N R (k := k) e H :=
  fun w0 n a cs hd hz hA => (h w0 n a cs hd hz hA).steps (.one (hs _ _ _ _))

theorem At.sub {s : Env} (hs : Sub s e) (h : At P f N R (k := k) s H) : At P f N R (k := k) e H :=
  fun w0 n a cs hd hz hA => h w0 n a cs hd hz (hA.sub hs)

theorem At.conseq {R' : Value → Heap → Prop} (hr : ∀ v H', R v H' → R' v H') (h : At P f N R (k := k) e H) : At P f N R' (k := k) e H :=
  fun w0 n a cs hd hz hA => by
    obtain ⟨v, H', n', fr, hR, r⟩ := h w0 n a cs hd hz hA
    exact ⟨v, H', n', fr, hr _ _ hR, r⟩

theorem At.region0 {id : Nat} {ops : Array Oper} (h : Reg P ops N (List.range ops.size) (fun e' H' => At P f N R (k := k) e' H') e H) :
    At P f N R (k := .code (.region id ops false) :: k) e H := by
  intro w0 n a cs hdf hs hA
  obtain ⟨x, a', w', hq, harr⟩ := wp_region (id := id) (h w0 n a hdf hs hA) (fb f) k cs
  cases x with
  | normal =>
    obtain ⟨hd', hs', e', H', n', rfl, hA', hK⟩ := hq
    exact (hK w0 n' a' cs hd' hs' hA').steps harr
  | _ => exact hq.elim

theorem At.draw0 {id : Nat} {ops : Array Oper} (S : Heap → Prop) (fs : List Nat) (hm : P.follows .mixedOrders = true)
    (h : RegD P ops N S fs ops.size (Array.replicate ops.size false) (fun e' H' => At P f N R (k := k) e' H') e H) :
    At P f N R (k := .code (.region id ops true) :: k) e H := by
  intro w0 n a cs hdf hs hA
  obtain ⟨x, a', w', hq, harr⟩ := wp_region_any (id := id) (ops := ops) (Q := QK N w0 fun e' H' => At P f N R (k := k) e' H') (a := a) (w := mk w0 H n) hm (wpF.any _ _ _ _ (h w0 (n + 1) a hdf hs hA)) (fb f) k cs
  cases x with
  | normal =>
    obtain ⟨hd', hs', e', H', n', rfl, hA', hK⟩ := hq
    exact (hK w0 n' a' cs hd' hs' hA').steps harr
  | _ => exact hq.elim

theorem At.cond0 {c : Operand} {x y : Code} {b : Bool} (hc : ev e c = some (.bool b)) (ht : b = true → At P f N R (k := .code x :: k) e H)
    (hf : b = false → At P f N R (k := .code y :: k) e H) : At P f N R (k := .code (.cond c x y) :: k) e H := by
  intro w0 n a cs hdf hs hA
  have he := hA.ev hc
  cases b with
  | true => exact (ht rfl w0 n a cs hdf hs hA).steps (.one (by simpa using step_cond (P := P) (b := fb f) (k := k) (cs := cs) (x := x) (y := y) he))
  | false => exact (hf rfl w0 n a cs hdf hs hA).steps (.one (by simpa using step_cond (P := P) (b := fb f) (k := k) (cs := cs) (x := x) (y := y) he))

def AtH (P : Program) (f : FuncId) (N : Nat) (R : Value → Heap → Prop) (e : Env) (H : Heap) : Hd → Prop
  | .region ops dr k => ∀ id, At P f N R (k := .code (.region id ops dr) :: k) e H
  | .cond c x y => ∃ b, ev e c = some (.bool b) ∧ (b = true → At P f N R (k := x) e H) ∧ (b = false → At P f N R (k := y) e H)
  | .head c k => At P f N R (k := .code c :: .inLoop c :: k) e H
  | .ret => ∀ k, At P f N R (k := .code .ret :: k) e H
  | .fall => At P f N R (k := []) e H
  | .other => False

theorem At.of_hd : ∀ (m : Nat) (k : List Item), AtH P f N R e H (hd m k) → At P f N R (k := k) e H
  | 0, _, h => h.elim
  | _ + 1, [], h => h
  | m + 1, .code c :: k, h => by
    cases c with
    | skip => exact At.step (fun _ _ _ _ => step_skip) (At.of_hd m k h)
    | label l => exact At.step (fun _ _ _ _ => step_label) (At.of_hd m k h)
    | seq a b => exact At.step (fun _ _ _ _ => step_seq) (At.of_hd m _ h)
    | region id ops dr => exact h id
    | cond c x y => obtain ⟨b, h1, h2, h3⟩ := h; exact At.cond0 h1 h2 h3
    | block id b => exact At.step (fun _ _ _ _ => step_block) (At.of_hd m _ h)
    | loop b => exact At.step (fun _ _ _ _ => step_loop) h
    | exit id =>
      simp only [hd] at h
      split at h
      · rename_i k' hk
        exact At.step (fun _ _ _ _ => step_exit hk) (At.of_hd m _ h)
      · exact h.elim
    | ret => exact h k
    | rangeFunc _ _ _ _ => exact h.elim
    | scope _ => exact h.elim
    | goto _ => exact h.elim
    | refuse _ => exact h.elim
  | m + 1, .inBlock id :: k, h => At.step (fun _ _ _ _ => step_inBlock) (At.of_hd m k h)
  | _ + 1, .inLoop c :: k, h => At.step (fun _ _ _ _ => step_inLoop) h
  | _ + 1, .inScope _ :: _, h => h.elim
  | _ + 1, .inRegion _ _ :: _, h => h.elim
  | _ + 1, .inRangeFunc _ :: _, h => h.elim
  | _ + 1, .endRangeFunc _ :: _, h => h.elim

theorem At.region {ops : Array Oper} {k' : List Item} {is : List Nat} (hh : hd 60 k = .region ops false k') (hi : List.range ops.size = is)
    (h : Reg P ops N is (fun e' H' => At P f N R (k := k') e' H') e H) : At P f N R (k := k) e H :=
  At.of_hd 60 k (by rw [hh]; exact fun id => At.region0 (by rw [hi]; exact h))

theorem At.draw {ops : Array Oper} {k' : List Item} {m : Nat} (S : Heap → Prop) (fs : List Nat) (hm : P.follows .mixedOrders = true) (hh : hd 60 k = .region ops true k') (hi : ops.size = m)
    (h : RegD P ops N S fs m (Array.replicate m false) (fun e' H' => At P f N R (k := k') e' H') e H) : At P f N R (k := k) e H :=
  At.of_hd 60 k (by rw [hh]; exact fun id => At.draw0 S fs hm (by rw [hi]; exact h))

theorem At.cond {c : Operand} {x y : List Item} {b : Bool} (hh : hd 60 k = .cond c x y) (hc : ev e c = some (.bool b)) (ht : b = true → At P f N R (k := x) e H)
    (hf : b = false → At P f N R (k := y) e H) : At P f N R (k := k) e H :=
  At.of_hd 60 k (by rw [hh]; exact ⟨b, hc, ht, hf⟩)

/-- A loop: 'st' tells the slots of a state, 'I' what holds of it, 'μ' falls. -/
theorem At.loop {c : Code} {k' : List Item} {σ : Type} (st : σ → Env) (I : σ → Heap → Prop) (μ : σ → Nat) (x0 : σ) (hh : hd 60 k = .head c k') (hs : Sub (st x0) e) (h0 : I x0 H)
    (round : ∀ x H, I x H → (∀ x' H', I x' H' → μ x' < μ x → At P f N R (k := .inLoop c :: k') (st x') H') → At P f N R (k := .code c :: .inLoop c :: k') (st x) H) :
    At P f N R (k := k) e H := by
  have key : ∀ m x H, μ x = m → I x H → At P f N R (k := .code c :: .inLoop c :: k') (st x) H := by
    intro m
    induction m using Nat.strongRecOn with
    | _ m ih =>
      intro x H hm hI
      refine round x H hI fun x' H' hI' hlt => ?_
      exact At.step (fun _ _ _ _ => step_inLoop) (ih (μ x') (hm ▸ hlt) x' H' rfl hI')
  exact At.of_hd 60 k (by rw [hh]; exact At.sub hs (key _ x0 H rfl h0))

def rlist (e : Env) : List ResultVar → Option (List Value)
  | [] => some []
  | .tmp t :: r => match lk e t, rlist e r with
    | some v, some vs => some (v :: vs)
    | _, _ => none
  | .cell _ _ :: _ => none

def resv (e : Env) (rs : List ResultVar) : Option Value :=
  match rs with
  | [.tmp t] => lk e t
  | l => match l.length == 1 with
    | true => none
    | false => match rlist e l with
      | some vs => some (.tuple ⟨vs⟩)
      | none => none

def resM (tm : Array Value) : ResultVar → Sem Value
  | .tmp t => pure (tm.getD t undef)
  | .cell a t => do loadVar t (← asAddr (tm.getD a undef))
theorem results_eq (fn : Func) (tm : Array Value) : results fn tm = (do let vs ← fn.results.mapM (resM tm); pure (if h : vs.size = 1 then vs[0] else .tuple vs)) := rfl

theorem rlist_run {e : Env} {tm : Array Value} (hA : Ag e tm) (w : World) : ∀ {l : List ResultVar} {vs : List Value}, rlist e l = some vs →
    (l.mapM (resM tm)).run P w = .ok vs w
  | [], vs, h => by cases h; simp
  | .tmp t :: r, vs, h => by
    simp only [rlist] at h
    split at h
    · rename_i v vs' h1 h2
      cases h
      have h3 := rlist_run hA w h2
      have h4 : tm.getD t undef = v := by rw [Array.getD_eq_getD_getElem?, hA t v h1]; rfl
      rw [List.mapM_cons]
      simp only [resM, Sem.run_bind, Sem.run_pure, Result.andThen_ok, h3, h4]
    · cases h
  | .cell _ _ :: _, _, h => by cases h

theorem results_run {e : Env} {tm : Array Value} (hA : Ag e tm) (fn : Func) (w : World) {v : Value} (h : resv e fn.results.toList = some v) :
    (results fn tm).run P w = .ok v w := by
  rw [results_eq]
  have key : ∀ vs, rlist e fn.results.toList = some vs →
      (fn.results.mapM (resM tm)).run P w = .ok vs.toArray w := by
    intro vs hv
    have := rlist_run (P := P) hA w hv
    rw [Array.mapM_eq_mapM_toList]
    simp only [Sem.run_map, this, Result.andThen_ok]
  unfold resv at h
  split at h
  · rename_i t ht
    have h1 : rlist e fn.results.toList = some [v] := by rw [ht]; simp [rlist, h]
    rw [Sem.run_bind, key _ h1]
    simp
  · split at h
    · cases h
    · rename_i hl
      split at h
      · rename_i vs hv
        cases h
        have hlen : ∀ (l : List ResultVar) vs, rlist e l = some vs → vs.length = l.length := by
          intro l
          induction l with
          | nil => intro vs h; cases h; rfl
          | cons x l ih =>
            intro vs h
            cases x with
            | tmp t =>
              simp only [rlist] at h
              split at h
              · rename_i v vs' h1 h2; cases h; simp [ih _ h2]
              · cases h
            | cell a t => cases h
        have hl' := hlen _ _ hv
        rw [Sem.run_bind, key _ hv]
        have : vs.length ≠ 1 := by rw [hl']; simpa using hl
        simp [this]
      · cases h

theorem At.ret {fn : Func} {v : Value} (hh : hd 60 k = .ret) (hf : P.funcs[f]? = some fn) (hv : resv e fn.results.toList = some v) (hR : R v H) : At P f N R (k := k) e H := by
  have key : ∀ k, At P f N R (k := .code .ret :: k) e H := by
    intro k w0 n a cs hdf hs hA
    exact ⟨v, H, n, _, hR, .one step_ret, rfl, rfl, hdf, rfl, fn, hf, results_run hA fn _ hv⟩
  exact At.of_hd 60 k (by rw [hh]; exact key)


theorem At.fall {fn : Func} {v : Value} (hh : hd 60 k = .fall) (hf : P.funcs[f]? = some fn) (hv : resv e fn.results.toList = some v) (hR : R v H) : At P f N R (k := k) e H := by
  have key : At P f N R (k := []) e H := by
    intro w0 n a cs hdf hs hA
    exact ⟨v, H, n, _, hR, .one step_end, rfl, rfl, hdf, rfl, fn, hf, results_run hA fn _ hv⟩
  exact At.of_hd 60 k (by rw [hh]; exact key)
end points

/-! ### contracts -/

/-- Function f of args, over heap H, returns some v, H' with R. -/
structure Ret (P : Program) (f : FuncId) (args : List Value) (H : Heap) (R : Value → Heap → Prop) : Prop where
  call : ∀ (as : Array Value) (w : World), (callFunc f as).run P w = .ok (.enter f as) w
  runs : ∀ (w0 : World) (n : Nat), Calls P f args.toArray (mk w0 H n) fun e w' => ∃ v H' n', e = .returned v ∧ w' = mk w0 H' n' ∧ R v H'

theorem Ret.mono {P : Program} {f : FuncId} {args : List Value} {H : Heap} {R R' : Value → Heap → Prop} (h : Ret P f args H R) (hr : ∀ v H', R v H' → R' v H') : Ret P f args H R' :=
  ⟨h.call, fun w0 n => (h.runs w0 n).mono fun _ _ ⟨v, H', n', a, b, c⟩ => ⟨v, H', n', a, b, hr _ _ c⟩⟩

def envl : Nat → List Value → Env
  | _, [] => []
  | i, v :: r => (i, v) :: envl (i + 1) r

theorem lk_envl : ∀ (vs : List Value) (i j : Nat) (v : Value), lk (envl i vs) j = some v → i ≤ j ∧ vs[j - i]? = some v
  | [], _, _, _, h => by cases h
  | u :: vs, i, j, v, h => by
    simp only [envl, lk] at h
    split at h
    · rename_i hb
      have : i = j := by simpa using hb
      subst this; cases h
      simp
    · rename_i hb
      have hne : i ≠ j := by intro hh; subst hh; simp at hb
      obtain ⟨h1, h2⟩ := lk_envl vs (i + 1) j v h
      refine ⟨by omega, ?_⟩
      rw [show j - i = (j - (i + 1)) + 1 from by omega]
      simpa using h2

theorem Ret.of_at {P : Program} {f : FuncId} {fn : Func} {c : Code} {args : List Value} {H : Heap} {R : Value → Heap → Prop} {N : Nat} {e : Env}
    (hcall : ∀ (as : Array Value) (w : World), (callFunc f as).run P w = .ok (.enter f as) w) (hf : P.funcs[f]? = some fn) (hb : fn.body = some c)
    (hN : (args.length + (fn.ntmps - args.length)) = N) (he : envl 0 args = e) (h : At P f N R (k := [.code c]) e H) : Ret P f args H R := by
  refine ⟨hcall, fun w0 n cs => ?_⟩
  have hA : Ag e (args.toArray ++ Array.replicate (fn.ntmps - args.toArray.size) undef) := by
    subst he
    intro i v hv
    obtain ⟨_, h2⟩ := lk_envl args 0 i v hv
    have h3 : i < args.length := by
      rcases Nat.lt_or_ge i args.length with h | h
      · exact h
      · rw [List.getElem?_eq_none (by omega)] at h2; cases h2
    rw [Array.getElem?_append_left (by simpa using h3)]
    simpa using h2
  have henter : Frame.enter P f args.toArray .normal = (fb f).at { tmps := args.toArray ++ Array.replicate (fn.ntmps - args.toArray.size) undef, defers := [] } [.code c] := by
    simp [Frame.enter, Frame.at, hf, hb, fb]
  obtain ⟨v, H', n', fr, hR, hs, hfn, hl⟩ := h w0 n { tmps := args.toArray ++ Array.replicate (fn.ntmps - args.toArray.size) undef, defers := [] } cs rfl (by simp [← hN]) hA
  rw [← henter] at hs
  exact ⟨.returned v, Fx.mk w0 H' n', fr, ⟨v, H', n', rfl, rfl, hR⟩, hs, hfn, hl⟩

theorem Does.of_run {P : Program} {o : Oper} {e : Env} {H : Heap} {C : Value → Heap → Prop} {g : FuncId} {vs : List Value} (h : Ret P g vs H C)
    (hr : ∀ (a : Act) (w : World), Ag e a.tmps → (execOp a.eval o).run P w = .ok (.enter g vs.toArray) w) : Does P o e H C := by
  intro w0 n a hA K Q hK
  unfold Oper.wp
  rw [hr a _ hA]
  show Calls _ _ _ _ _
  refine (h.runs w0 n).mono fun x w' hx => ?_
  obtain ⟨v, H', n', rfl, rfl, hC⟩ := hx
  exact hK v H' n' hC

theorem Does.call {P : Program} {dst : Option Tmp} {g : FuncId} {xs : List Operand} {ats : Array TypeId} {ty : TypeId} {pos : String} {aft : Array Edge} {gd : Option (Nat × Bool)}
    {e : Env} {H : Heap} {C : Value → Heap → Prop} {vs : List Value} (hx : evs e xs = some vs) (h : Ret P g vs H C) :
    Does P ⟨dst, .call { callee := .value (.func g), args := xs.toArray, argTypes := ats }, ty, pos, aft, gd⟩ e H C :=
  Does.of_run h fun a w hA => by
    have h1 := hA.evs hx
    have h2 : Act.eval a (.func g) = .func (.func g) #[] #[] := rfl
    simp only [execOp, resolve, Sem.run_bind]
    simp [Deferred.ofValue, h2, invoke, h1, h.call]
end Go.Fx
