/-
  Regions whose order is drawn: an operation that comes behind a load by way of others need not keep what the load asks for.
-/
import Derived.Test.YtjhkmebmbopfoaaFxV
namespace Go.Fx
set_option linter.unusedSimpArgs false
set_option linter.unusedVariables false
open Go

section drawn
variable {P : Program} {ops : Array Oper} {Q : Exit → Act → World → Prop} {S : World → Prop} {F : Nat → Bool}
/-- what is behind is done only when what is ahead is -/
def Closed (ops : Array Oper) (ls : Array Bool) : Prop := ∀ (k : Nat) (o : Oper), ops[k]? = some o → ls.getD k true = true → ∀ e ∈ o.after, Region.binds .any e = true → ls.getD e.on false = true
def closedB (ops : Array Oper) (ls : Array Bool) : Bool := (List.range ops.size).all fun k => match ops[k]? with
  | some o => !(ls.getD k true) || o.after.all fun e => !(Region.binds .any e) || ls.getD e.on false
  | none => true
theorem closed_of {ls : Array Bool} (h : closedB ops ls = true) : Closed ops ls := by
  intro k o ho hk e he hb
  have hlt : k < ops.size := (Array.getElem?_eq_some_iff.1 ho).1
  have h1 := List.all_eq_true.1 h k (List.mem_range.2 hlt)
  simp only [ho, hk, Bool.not_true, Bool.false_or, Array.all_eq_true_iff_forall_mem] at h1
  have h2 := h1 e he
  simpa [hb] using h2
theorem Closed.set {ls : Array Bool} {j : Nat} (h : Closed ops ls) (hj : j ∈ Region.ready .any ops ls) : Closed ops (ls.setIfInBounds j true) := by
  intro k o ho hk e he hb
  by_cases hkj : k = j
  · subst hkj
    obtain ⟨_, o', ho', hall⟩ := mem_ready.1 hj
    rw [ho] at ho'; cases ho'
    exact getD_set_true (hall e he hb)
  · rw [getD_set_ne true (Ne.symm hkj)] at hk
    exact getD_set_true (h k o ho hk e he hb)
def waitsT (ops : Array Oper) : Nat → Nat → Nat → Bool
  | 0, _, _ => false
  | d + 1, j, i => match ops[j]? with
    | some o => o.after.any fun e => Region.binds .any e && (e.on == i || waitsT ops d e.on i)
    | none => false
theorem done_of {ls : Array Bool} (h : Closed ops ls) {i : Nat} : ∀ (d j : Nat) (oj : Oper), ops[j]? = some oj → (∀ e ∈ oj.after, Region.binds .any e = true → ls.getD e.on false = true) → waitsT ops d j i = true → ls.getD i false = true
  | 0, _, _, _, _, hw => by cases hw
  | d + 1, j, oj, hoj, hall, hw => by
    simp only [waitsT, hoj, Array.any_eq_true, Bool.and_eq_true, Bool.or_eq_true, beq_iff_eq] at hw
    obtain ⟨k, hk, hb, hw⟩ := hw
    have hd := hall _ (Array.getElem_mem hk) hb
    rcases hw with he | hw
    · rw [he] at hd; exact hd
    · cases ho' : ops[(oj.after[k]).on]? with
      | none => cases d with
        | zero => cases hw
        | succ d => simp only [waitsT, ho'] at hw; cases hw
      | some o' =>
        have ht : ls.getD (oj.after[k]).on true = true := by
          rcases Nat.lt_or_ge (oj.after[k]).on ls.size with h' | h'
          · simp [h'] at hd ⊢; exact hd
          · simp [Array.getElem?_eq_none h'] at hd
        exact done_of h d _ o' ho' (fun e he hb' => h _ o' ho' ht e he hb') hw
theorem wpF.firstT {i : Nat} {oi : Oper} {v : Value} (hi : ops[i]? = some oi) (hsel : ∀ (j : Nat) (o : Oper) cs b, ops[j]? = some o → o.op ≠ .select cs b)
    (hQ : ∀ c a w, Q (.panic c) (a.put oi.dst v) w → Q (.panic c) a w) (d : Nat) (hT : ∀ j, F j = true → waitsT ops d j i = true) :
    ∀ (fuel : Nat) (ls : Array Bool) (a : Act) (w : World),
      (∀ j oj, ops[j]? = some oj → j ≠ i → ls.getD j true = false → (∀ e ∈ oj.after, Region.binds .any e = true → e.on ≠ i) → oi.apart ops oj = true) →
      Closed ops ls → i ∈ Region.ready .any ops ls → YieldsIf P ops S oi v a → S w →
      wpF P ops Q S F fuel (ls.setIfInBounds i true) (a.put oi.dst v) w → wpF P ops Q S F (fuel + 1) ls a w := by
  intro fuel
  induction fuel with
  | zero =>
    intro ls a w _ _ hr hy hTw H
    refine ⟨fun h => (by rw [h] at hr; cases hr), fun j hj => ?_⟩
    by_cases hji : j = i
    · subst hji; exact hy.wpOp hi hTw ⟨fun _ h => h, H⟩
    · have := ready_mono hj hji
      rw [H.1] at this
      cases this
  | succ fuel ih =>
    intro ls a w hfree hcl hr hy hTw H
    refine ⟨fun h => (by rw [h] at hr; cases hr), fun j hj => ?_⟩
    by_cases hji : j = i
    · subst hji; exact hy.wpOp hi hTw ⟨fun _ h => h, H⟩
    · have h1 := H.2 j (ready_mono hj hji)
      obtain ⟨hjun, oj, hoj, hall⟩ := mem_ready.1 hj
      have hF : F j = false := by
        cases hF : F j with
        | false => rfl
        | true =>
          have h1 := done_of hcl d j oj hoj hall (hT j hF)
          have h0 := (mem_ready.1 hr).1
          rcases Nat.lt_or_ge i ls.size with h' | h'
          · simp [h'] at h0 h1; rw [h0] at h1; cases h1
          · simp [Array.getElem?_eq_none h'] at h1
      have hnot : ∀ e ∈ oj.after, Region.binds .any e = true → e.on ≠ i := fun e he hb heq => by
        have h1 := hall e he hb
        have h0 := (mem_ready.1 hr).1
        rw [heq] at h1
        rcases Nat.lt_or_ge i ls.size with h' | h'
        · simp [h'] at h0 h1; rw [h0] at h1; cases h1
        · simp [Array.getElem?_eq_none h'] at h1
      have h2 := wpOp_putIf hoj (hfree j oj hoj hji hjun hnot) (fun cs b => hsel i oi cs b hi) (fun cs b => hsel j oj cs b hoj) hQ hy h1
      have hfree' : ∀ k ok, ops[k]? = some ok → k ≠ i → (ls.setIfInBounds j true).getD k true = false →
          (∀ e ∈ ok.after, Region.binds .any e = true → e.on ≠ i) → oi.apart ops ok = true := fun k ok hk hki hun hno => by
        refine hfree k ok hk hki ?_ hno
        by_cases hjk : j = k
        · subst hjk; exact hjun
        · rw [getD_set_ne true hjk] at hun; exact hun
      refine wpOp_mono (fun a' w' h3 => ⟨h3.2.1, ih (ls.setIfInBounds j true) a' w' hfree' (hcl.set hj) (ready_mono hr (Ne.symm hji)) h3.1 (h3.2.1 hF hTw) ?_⟩) h2
      rw [Array.setIfInBounds_comm _ _ hji]
      exact h3.2.2
end drawn
section regD
variable {P : Program} {ops : Array Oper} {N : Nat} {S : Heap → Prop} {fs : List Nat} {fuel : Nat} {ls : Array Bool} {K : Env → Heap → Prop} {e : Env} {H : Heap} {i t : Nat} {o : Oper} {C : Value → Heap → Prop} {v : Value} {j d : Nat} {b b' : Bool}
def planT (ops : Array Oper) (fs : List Nat) (ls : Array Bool) (i : Nat) : Bool := plan ops ls i && (closedB ops ls && fs.all fun j => waitsT ops 8 j i)
theorem planT_spec (hp : planT ops fs ls i = true) : plan ops ls i = true ∧ Closed ops ls ∧ ∀ j, fs.contains j = true → waitsT ops 8 j i = true := by
  simp only [planT, Bool.and_eq_true, List.all_eq_true] at hp
  exact ⟨hp.1, closed_of hp.2.1, fun j hj => hp.2.2 j (by simpa using hj)⟩
theorem RegD.rawT (ho : ops[i]? = some o) (hd : o.dst = some t) (hN : Nat.blt t N = true) (hp : planT ops fs ls i = true)
    (hTw : S H) (hy : ∀ a : Act, Ag e a.tmps → YieldsIf P ops (fun w => S w.heap) o v a) (hk : RegD P ops N S fs fuel (ls.setIfInBounds i true) K ((t, v) :: e) H) : RegD P ops N S fs (fuel + 1) ls K e H := by
  intro w0 n a hdf hs hA
  obtain ⟨hp1, hcl, hw⟩ := planT_spec hp
  simp only [plan, Bool.and_eq_true] at hp1
  refine wpF.firstT ho (Region.noSelect_spec hp1.1.1) (fun _ _ _ h => h.elim) 8 hw fuel ls a _ (Region.free_spec ho hp1.1.2) hcl (by simpa using hp1.2) (hy a hA) hTw ?_
  rw [← up_some hd v e] at hk
  exact hk w0 n _ (by rw [defers_put]; exact hdf) (by rw [size_put]; exact hs) (hA.put hs (okd_some hd hN) v)
theorem RegD.takeT (ho : ops[i]? = some o) (hg : o.guard = none) (hd : o.dst = some t) (hN : Nat.blt t N = true) (hp : planT ops fs ls i = true) (hS : S H) (h : ∀ H, S H → Lod P o e H v) (hk : RegD P ops N S fs fuel (ls.setIfInBounds i true) K ((t, v) :: e) H) : RegD P ops N S fs (fuel + 1) ls K e H :=
  RegD.rawT ho hd hN hp hS (fun a hA => .inl ⟨by simp [Region.wanted, hg], fun w hw => h w.heap hw a w rfl hA⟩) hk
theorem RegD.gtakeT (ho : ops[i]? = some o) (hg : o.guard = some (j, b)) (hj : (ops[j]?).bind (·.dst) = some d) (hb : lk e d = some (.bool b)) (hd : o.dst = some t) (hN : Nat.blt t N = true) (hp : planT ops fs ls i = true) (hS : S H) (h : ∀ H, S H → Lod P o e H v) (hk : RegD P ops N S fs fuel (ls.setIfInBounds i true) K ((t, v) :: e) H) : RegD P ops N S fs (fuel + 1) ls K e H :=
  RegD.rawT ho hd hN hp hS (fun a hA => .inl ⟨by have hy := yielded_of (ops := ops) hA hj hb; simp [Region.wanted, hg, hy], fun w hw => h w.heap hw a w rfl hA⟩) hk
end regD
end Go.Fx
