/-
  More rules for single operations, over heaps: tests of a slot, lengths, cuts, literals of slices, function values, interfaces.
-/
import Derived.Test.YtjhkmebmbopfoaaDoorFxB
namespace Go.Fx
set_option linter.unusedSimpArgs false
set_option linter.unusedVariables false
open Go

theorem Ag.dup {e : Env} {tm : Array Value} {d : Nat} {v : Value} (hv : lk e d = some v) (h : Ag e tm) : Ag ((d, v) :: e) tm := by
  intro i u hu
  simp only [lk] at hu
  split at hu
  · rename_i hb
    have : d = i := by simpa using hb
    subst this; cases hu
    exact h _ _ hv
  · exact h i u hu

theorem Reg.case {P : Program} {ops : Array Oper} {N : Nat} {is : List Nat} {K : Env → Heap → Prop} {e : Env} {H : Heap} {b : Bool} (d : Nat) (hb : lk e d = some (.bool b))
    (ht : b = true → Reg P ops N is K ((d, .bool true) :: e) H) (hf : b = false → Reg P ops N is K ((d, .bool false) :: e) H) : Reg P ops N is K e H := by
  intro w0 n a hd hs hA
  cases b with
  | true => exact ht rfl w0 n a hd hs (hA.dup hb)
  | false => exact hf rfl w0 n a hd hs (hA.dup hb)
theorem Reg.known {P : Program} {ops : Array Oper} {N : Nat} {is : List Nat} {K : Env → Heap → Prop} {e : Env} {H : Heap} {b b' : Bool} (d : Nat) (hb : lk e d = some (.bool b)) (h : b = b')
    (hk : Reg P ops N is K ((d, .bool b') :: e) H) : Reg P ops N is K e H := by
  subst h
  exact Reg.case d hb (fun h => by subst h; exact hk) (fun h => by subst h; exact hk)
theorem RegD.case {P : Program} {ops : Array Oper} {N : Nat} {S : Heap → Prop} {fs : List Nat} {fuel : Nat} {ls : Array Bool} {K : Env → Heap → Prop} {e : Env} {H : Heap} {b : Bool} (d : Nat) (hb : lk e d = some (.bool b))
    (ht : b = true → RegD P ops N S fs fuel ls K ((d, .bool true) :: e) H) (hf : b = false → RegD P ops N S fs fuel ls K ((d, .bool false) :: e) H) : RegD P ops N S fs fuel ls K e H := by
  intro w0 n a hd hs hA
  cases b with
  | true => exact ht rfl w0 n a hd hs (hA.dup hb)
  | false => exact hf rfl w0 n a hd hs (hA.dup hb)

theorem RegD.known {P : Program} {ops : Array Oper} {N : Nat} {S : Heap → Prop} {fs : List Nat} {fuel : Nat} {ls : Array Bool} {K : Env → Heap → Prop} {e : Env} {H : Heap} {b b' : Bool} (d : Nat) (hb : lk e d = some (.bool b)) (h : b = b')
    (hk : RegD P ops N S fs fuel ls K ((d, .bool b') :: e) H) : RegD P ops N S fs fuel ls K e H := by
  subst h
  exact RegD.case d hb (fun h => by subst h; exact hk) (fun h => by subst h; exact hk)

/-- what stands at the head, without what does nothing -/
def nrm : Nat → List Item → List Item
  | 0, k => k
  | _ + 1, [] => []
  | n + 1, .code c :: k => match c with
    | .skip => nrm n k
    | .label _ => nrm n k
    | .seq a b => nrm n (.code a :: .code b :: k)
    | .block id b => nrm n (.code b :: .inBlock id :: k)
    | .exit id => match exitTo id k with
      | some k' => nrm n k'
      | none => .code (.exit id) :: k
    | c => .code c :: k
  | n + 1, .inBlock _ :: k => nrm n k
  | _ + 1, k => k

theorem At.nrm {P : Program} {f : FuncId} {N : Nat} {R : Value → Heap → Prop} {e : Env} {H : Heap} : ∀ (m : Nat) (k : List Item), At P f N R (k := Fx.nrm m k) e H → At P f N R (k := k) e H
  | 0, _, h => h
  | _ + 1, [], h => h
  | m + 1, it :: k, h => by
    cases it with
    | code c =>
      cases c with
      | skip => exact At.step (fun _ _ _ _ => step_skip) (At.nrm m k h)
      | label l => exact At.step (fun _ _ _ _ => step_label) (At.nrm m k h)
      | seq a b => exact At.step (fun _ _ _ _ => step_seq) (At.nrm m _ h)
      | block id b => exact At.step (fun _ _ _ _ => step_block) (At.nrm m _ h)
      | exit id =>
        cases hx : exitTo id k with
        | some k' =>
          have e1 : Fx.nrm (m + 1) (.code (.exit id) :: k) = Fx.nrm m k' := by simp [Fx.nrm, hx]
          rw [e1] at h
          exact At.step (fun _ _ _ _ => step_exit hx) (At.nrm m _ h)
        | none =>
          have e1 : Fx.nrm (m + 1) (.code (.exit id) :: k) = .code (.exit id) :: k := by simp [Fx.nrm, hx]
          rw [e1] at h
          exact h
      | _ => exact h
    | inBlock id => exact At.step (fun _ _ _ _ => step_inBlock) (At.nrm m k h)
    | _ => exact h

/-- The ways of a test meet behind it. -/
theorem At.joinc {P : Program} {f : FuncId} {N : Nat} {R : Value → Heap → Prop} {k kk : List Item} {c : Operand} {x y : Code} {e : Env} {H : Heap} {σ : Type} (st : σ → Env) (I : σ → Heap → Prop) (hh : Fx.nrm 60 k = .code (.cond c x y) :: kk)
    (h1 : (∀ x H', I x H' → At P f N R (k := Fx.nrm 60 kk) (st x) H') → At P f N R (k := k) e H) (h2 : ∀ x H', I x H' → At P f N R (k := Fx.nrm 60 kk) (st x) H') : At P f N R (k := k) e H := h1 h2
/-- arriving there -/
theorem At.meets {P : Program} {f : FuncId} {N : Nat} {R : Value → Heap → Prop} {k k' : List Item} {e s : Env} {H : Heap} (hk : Fx.nrm 60 k = k') (h : At P f N R (k := k') s H) (hs : Sub s e) : At P f N R (k := k) e H :=
  At.nrm 60 k (by rw [hk]; exact At.sub hs h)
theorem At.via {P : Program} {f : FuncId} {N : Nat} {R : Value → Heap → Prop} {k : List Item} {e s : Env} {H : Heap} (h : At P f N R (k := k) s H) (hs : Sub s e) : At P f N R (k := k) e H := At.sub hs h

theorem At.condT {P : Program} {f : FuncId} {N : Nat} {R : Value → Heap → Prop} {k : List Item} {e : Env} {H : Heap} {c : Operand} {x y : List Item} {b : Bool} (hh : hd 60 k = .cond c x y) (hc : ev e c = some (.bool b)) (hb : b = true)
    (ht : At P f N R (k := x) e H) : At P f N R (k := k) e H := At.cond hh hc (fun _ => ht) (fun h => by rw [hb] at h; cases h)
theorem At.condF {P : Program} {f : FuncId} {N : Nat} {R : Value → Heap → Prop} {k : List Item} {e : Env} {H : Heap} {c : Operand} {x y : List Item} {b : Bool} (hh : hd 60 k = .cond c x y) (hc : ev e c = some (.bool b)) (hb : b = false)
    (hf : At P f N R (k := y) e H) : At P f N R (k := k) e H := At.cond hh hc (fun h => by rw [hb] at h; cases h) (fun _ => hf)

section rules
variable {P : Program} {dst : Option Tmp} {ty : TypeId} {pos : String} {aft : Array Edge} {gd : Option (Nat × Bool)} {e : Env} {H : Heap}

/-- a slice type -/
def isSl (P : Program) (t : TypeId) : Bool := match P.underlying t with | some (.slice _) => true | _ => false
def isStr (P : Program) (t : TypeId) : Bool := match P.underlying t with | some .string => true | _ => false

theorem run_call_builtin {b : Builtin} {xs : List Operand} {ats : Array TypeId} {vs : List Value} (a : Act) (w : World) (hA : Ag e a.tmps) (hx : evs e xs = some vs) :
    ∃ cs, (execOp a.eval ⟨dst, .call { callee := .builtin b, args := xs.toArray, argTypes := ats }, ty, pos, aft, gd⟩).run P w = (builtin b ats ty cs vs.toArray).run P w := by
  have h1 := hA.evs hx
  refine Exists.intro ?cs ?h
  case h =>
    simp only [execOp, resolve, Sem.run_bind, Sem.run_pure, Result.andThen_ok, invoke, List.map_toArray, h1]
    rfl

theorem Pur.lenS {x : Operand} {t : TypeId} {A : Option Addr} {n c : Nat} (ht : isSl P t = true) (hx : ev e x = some (.slice A n c)) :
    Pur P ⟨dst, .call { callee := .builtin .len, args := #[x], argTypes := #[t] }, ty, pos, aft, gd⟩ e (.int .i64 n) := by
  intro a w hA
  obtain ⟨cs, h⟩ := run_call_builtin (P := P) (dst := dst) (b := .len) (xs := [x]) (ats := #[t]) (ty := ty) (pos := pos) (aft := aft) (gd := gd) a w hA (by simp [evs, hx]; rfl)
  rw [show (#[x] : Array Operand) = [x].toArray from rfl, h]
  unfold isSl at ht
  split at ht
  · rename_i el hu
    simp [builtin, Builtin.len_, run_underlying hu, goInt]
  · cases ht
theorem Pur.lenT {x : Operand} {t : TypeId} {s : ByteArray} (ht : isStr P t = true) (hx : ev e x = some (.string s)) :
    Pur P ⟨dst, .call { callee := .builtin .len, args := #[x], argTypes := #[t] }, ty, pos, aft, gd⟩ e (.int .i64 s.size) := by
  intro a w hA
  obtain ⟨cs, h⟩ := run_call_builtin (P := P) (dst := dst) (b := .len) (xs := [x]) (ats := #[t]) (ty := ty) (pos := pos) (aft := aft) (gd := gd) a w hA (by simp [evs, hx]; rfl)
  rw [show (#[x] : Array Operand) = [x].toArray from rfl, h]
  unfold isStr at ht
  split at ht
  · rename_i hu
    simp [builtin, Builtin.len_, run_underlying hu, goInt]
  · cases ht

theorem Pur.pickT' {c x y : Operand} {v : Value} {b : Bool} (hc : ev e c = some (.bool b)) (hb : b = true) (hx : ev e x = some v) : Pur P ⟨dst, .pick c x y, ty, pos, aft, gd⟩ e v := by
  subst hb; exact Pur.pickT hc hx
theorem Pur.pickF' {c x y : Operand} {v : Value} {b : Bool} (hc : ev e c = some (.bool b)) (hb : b = false) (hy : ev e y = some v) : Pur P ⟨dst, .pick c x y, ty, pos, aft, gd⟩ e v := by
  subst hb; exact Pur.pickF hc hy
theorem Pur.not {t : TypeId} {x : Operand} {b : Bool} (hx : ev e x = some (.bool b)) : Pur P ⟨dst, .unOp .not t x, ty, pos, aft, gd⟩ e (.bool (!b)) := by
  intro a w hA
  have e1 := hA.ev hx
  simp only [execOp, e1]
  simp [Op.unary]

theorem Pur.mkf {fn : Fn} {first cap : List Operand} {vs us : List Value} (h1 : evs e first = some vs) (h2 : evs e cap = some us) :
    Pur P ⟨dst, .makeFunc fn first.toArray cap.toArray, ty, pos, aft, gd⟩ e (.func fn vs.toArray us.toArray) := by
  intro a w hA
  have e1 := hA.evs h1
  have e2 := hA.evs h2
  simp [execOp, Instr.makeFunc, e1, e2]

theorem Does.callv {x : Operand} {g : FuncId} {xs : List Operand} {ats : Array TypeId} {C : Value → Heap → Prop} {vs us : List Value} (hf : ev e x = some (.func (.func g) #[] us.toArray)) (hx : evs e xs = some vs) (h : Ret P g (vs ++ us) H C) :
    Does P ⟨dst, .call { callee := .value x, args := xs.toArray, argTypes := ats }, ty, pos, aft, gd⟩ e H C :=
  Does.of_run h fun a w hA => by
    have h1 := hA.evs hx
    have h2 := hA.ev hf
    simp only [execOp, resolve, Sem.run_bind]
    simp [Deferred.ofValue, h2, invoke, h1, h.call]

/-! ### a slice's literal, of one-cell elements -/

theorem setIf_append (l r : List Value) (v w : Value) : ((l ++ w :: r).toArray).setIfInBounds l.length v = (l ++ v :: r).toArray := by
  simp

theorem fill_ones (s : Nat) (hs : s = 1) : ∀ (vs : List Value) (l z : List Value) (j : Nat), (∀ v ∈ vs, v.cells = #[v]) → l.length = j → z.length = vs.length →
    Instr.fill (fun i => some (i * s, s)) (l ++ z).toArray ((vs.zipIdx j).map fun p => (p.2, p.1)) = some (l ++ vs).toArray
  | [], l, z, j, _, _, hz => by
    have : z = [] := by simpa using hz
    subst this; simp [Instr.fill]
  | v :: vs, l, z, j, h1, hl, hz => by
    obtain ⟨z0, z, rfl⟩ : ∃ a b, z = a :: b := by cases z with
      | nil => simp at hz
      | cons a b => exact ⟨a, b, rfl⟩
    subst hs
    have hv := h1 v List.mem_cons_self
    simp only [List.zipIdx_cons, List.map_cons, Instr.fill, hv]
    have := fill_ones 1 rfl vs (l ++ [v]) z (j + 1) (fun u hu => h1 u (List.mem_cons_of_mem _ hu)) (by simp [hl]) (by simpa using hz)
    simp only [List.size_toArray, List.length_cons, List.length_nil, List.length_append]
    rw [if_neg (by simp; omega)]
    have e2 : (#[v] : Array Value).zipIdx.foldl (fun cs x => match x with | (c, j') => cs.setIfInBounds (j * 1 + j') c) (l ++ z0 :: z).toArray = (l ++ [v] ++ z).toArray := by
      subst hl
      simp [Array.zipIdx]
    rw [e2, this]
    simp

/-- the parts of a literal: numbers 0, 1, .. in this row -/
def prow : Nat → List (Nat × Operand) → Bool
  | _, [] => true
  | j, (i, _) :: r => Nat.beq i j && prow (j + 1) r

theorem prow_map (f : Operand → Value) : ∀ (j : Nat) (l : List (Nat × Operand)), prow j l = true → l.map (fun p => (p.1, f p.2)) = ((l.map (fun p => f p.2)).zipIdx j).map fun p => (p.2, p.1)
  | _, [], _ => rfl
  | j, (i, x) :: r, h => by
    simp only [prow, Bool.and_eq_true] at h
    obtain ⟨hi, h⟩ := h
    obtain rfl : i = j := by simpa using hi
    simp [prow_map f (i + 1) r h]

/-- a slice type of one-cell elements -/
def sl1 (P : Program) (t : TypeId) : Bool :=
  match P.underlying t with
  | some (.slice el) => match P.info? el with
    | some i => i.size == 1 && (match i.zero with | some z => z.cells.size == 1 | none => false)
    | none => false
  | _ => false

def onesB : List Value → Bool
  | [] => true
  | v :: r => (match v with | .agg _ => false | _ => true) && onesB r

theorem onesB_cells : ∀ {vs : List Value}, onesB vs = true → ∀ v ∈ vs, v.cells = #[v]
  | v :: r, h, u, hu => by
    simp only [onesB, Bool.and_eq_true] at h
    cases hu with
    | head => cases v <;> simp_all [Value.cells]
    | tail _ hu => exact onesB_cells h.2 u hu

theorem Does.bsl1 {t : TypeId} {len : Nat} {parts : List (Nat × Operand)} {vs : List Value} (ht : sl1 P t = true) (hp : prow 0 parts = true) (hv : evs e (parts.map (·.2)) = some vs) (h1 : onesB vs = true)
    (hl : vs.length = len) (hb : Nat.ble len 16777216 = true) : Does P ⟨dst, .buildSlice t len parts.toArray, ty, pos, aft, gd⟩ e H (fun u H' => u = .slice (some ⟨H.size, 0, none⟩) len len ∧ New H H' vs) := by
  intro w0 n a hA K Q hK
  unfold sl1 at ht
  split at ht
  case h_2 => cases ht
  rename_i el hu
  split at ht
  case h_2 => cases ht
  rename_i i hi
  simp only [Bool.and_eq_true, beq_iff_eq] at ht
  obtain ⟨hsz, hz⟩ := ht
  split at hz
  case h_2 => cases hz
  rename_i z hzz
  have e1 := hA.evs hv
  rw [List.map_map] at e1
  have e2 := prow_map a.eval 0 parts hp
  have e3 : parts.map (fun p => a.eval p.2) = vs := e1
  rw [e3] at e2
  have hfill : ∀ zs : List Value, zs.length = len → Instr.fill (fun i => some (i * 1, 1)) zs.toArray (parts.map fun p => (p.1, a.eval p.2)) = some vs.toArray := by
    intro zs hzs
    rw [e2]
    have := fill_ones 1 rfl vs [] zs 0 (onesB_cells h1) rfl (by rw [hzs, hl])
    simpa using this
  have hrun : (execOp a.eval ⟨dst, .buildSlice t len parts.toArray, ty, pos, aft, gd⟩).run P (mk w0 H n) = .ok (.value (.slice (some ⟨H.size, 0, none⟩) len len)) (mk w0 (H.push (.cells vs.toArray el)) n) := by
    have hlen : len ≤ 16777216 := by simpa [Nat.ble_eq] using hb
    simp only [execOp, Instr.buildSlice, Sem.run_bind, run_underlying hu, Result.andThen_ok, run_sizeOf' hi, hsz]
    rw [if_neg (by omega)]
    simp only [Sem.run_pure, Result.andThen_ok, Nat.mul_one]
    have key : ∀ zr : Array Value, Instr.fill (fun i => some (i, 1)) (Array.map (fun x => zr[x % zr.size]!) (Array.range len)) (List.map (fun p : Nat × Operand => (p.1, a.eval p.2)) parts) = some vs.toArray := by
      intro zr
      have := hfill ((Array.range len).map (fun x => zr[x % zr.size]!)).toList (by simp)
      simpa only [Nat.mul_one, Array.toArray_toList] using this
    have hz' : (zeroValue el).run P (mk w0 H n) = .ok z (mk w0 H n) := by simp [zeroValue, typeInfo, hi, hzz]
    by_cases h0 : len = 0
    · rw [if_pos h0]
      simp only [Sem.run_bind, Sem.run_pure, Result.andThen_ok, List.map_toArray, key, newRow_run]
    · rw [if_neg h0]
      simp only [Sem.run_bind, Sem.run_pure, Result.andThen_ok, List.map_toArray, key, newRow_run, hz']
  unfold Oper.wp
  rw [hrun]
  exact hK _ _ n ⟨rfl, el, rfl⟩
end rules
end Go.Fx
