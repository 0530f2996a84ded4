/-
  Blocks whose elements' type is known; stores that keep it.
-/
import Derived.Test.YtjhkmebmbopfoaaFxU
namespace Go.Fx
open Go
set_option linter.unusedSimpArgs false
set_option linter.unusedVariables false
/-- a block of the call's own, its elements' type known -/
def OwnT (H : Heap) (b : Nat) (c : List Value) (T : TypeId) : Prop := H[b]? = some (.cells c.toArray T (0, 0))
section
variable {P : Program} {dst : Option Tmp} {ty : TypeId} {pos : String} {aft : Array Edge} {gd : Option (Nat × Bool)} {e : Env} {H H' : Heap}
theorem OwnT.own {b : Nat} {c : List Value} {T : TypeId} (h : OwnT H b c T) : Own H b c := ⟨T, h⟩
theorem OwnT.blk {b : Nat} {c : List Value} {T : TypeId} (h : OwnT H b c T) : Blk H b c := h.own.blk
theorem OwnT.lt {b : Nat} {c : List Value} {T : TypeId} (h : OwnT H b c T) : b < H.size := h.own.lt
theorem OwnT.via {S : Nat → Prop} {b : Nat} {c : List Value} {T : TypeId} (h : OwnT H b c T) (he : But S H H') (hs : ¬ S b) : OwnT H' b c T := by
  unfold OwnT; rw [he.2 b h.lt hs]; exact h
theorem OwnT.ext {b : Nat} {c : List Value} {T : TypeId} (h : OwnT H b c T) (he : Ext H H') : OwnT H' b c T := h.via (S := fun _ => False) he.but (fun h => h)
theorem OwnT.upw {b b' : Nat} {c c' : List Value} {T : TypeId} (h : OwnT H b c T) (u : Upd H H' b' c') (hb : b ≠ b') : OwnT H' b c T := h.via u.but hb
theorem setCell_updT (w : World) (H : Heap) (n : Nat) {b o : Nat} {c : List Value} {T : TypeId} (v : Value) (h : OwnT H b c T) :
    ∃ H', (mk w H n).setCell ⟨b, o, none⟩ v = mk w H' n ∧ Upd H H' b (c.set o v) ∧ OwnT H' b (c.set o v) T := by
  have hT : OwnT (((mk w H n).setCell ⟨b, o, none⟩ v).heap) b (c.set o v) T := by
    unfold OwnT at h ⊢
    simp [mk, World.setCell, Array.getElem?_modify, h]
  refine ⟨_, rfl, ⟨?_, hT.own, ?_⟩, hT⟩
  · simp [mk]
  · intro b' hb
    simp only [mk, Array.getElem?_modify]
    rw [if_neg (by omega)]
theorem storeCells_runT (w0 : World) (n b : Nat) (T : TypeId) : ∀ (vs : List Value) (o i : Nat) (c : List Value) (H : Heap), OwnT H b c T → o + i + vs.length ≤ c.length → (∀ v ∈ vs, v.oneCell' = true) →
    ∃ H', (storeCells ⟨b, o, none⟩ vs i).run P (mk w0 H n) = .ok () (mk w0 H' n) ∧ Upd H H' b (c.take (o + i) ++ vs ++ c.drop (o + i + vs.length)) ∧ OwnT H' b (c.take (o + i) ++ vs ++ c.drop (o + i + vs.length)) T
  | [], o, i, c, H, h, _, _ => ⟨H, by simp [storeCells], ⟨rfl, by simpa using h.own, fun _ _ => rfl⟩, by simpa using h⟩
  | v :: vs, o, i, c, H, h, hl, h1 => by
    simp only [List.length_cons] at hl
    obtain ⟨H1, hs1, hu1, ht1⟩ := setCell_updT w0 H n (o := o + i) v h
    have hcell : (mk w0 H n).cell? ⟨b, o + i, none⟩ = some (c[o + i]'(by omega)) := by
      rw [cell_blk rfl h.blk, List.getElem?_eq_getElem]
    have hfr : (mk w0 H n).frozen? ⟨b, o + i, none⟩ = false := frozen_own rfl h.own
    obtain ⟨H2, hs2, hu2, ht2⟩ := storeCells_runT w0 n b T vs o (i + 1) (c.set (o + i) v) H1 ht1 (by simp; omega) (fun u hu => h1 u (List.mem_cons_of_mem _ hu))
    have e1 : (c.set (o + i) v).take (o + (i + 1)) ++ vs ++ (c.set (o + i) v).drop (o + (i + 1) + vs.length) = c.take (o + i) ++ v :: vs ++ c.drop (o + i + (vs.length + 1)) := by
      rw [List.drop_set_of_lt (by omega)]
      rw [show o + (i + 1) = (o + i) + 1 from by omega, List.take_set, List.take_succ_eq_append_getElem (by omega)]
      rw [List.set_append_right _ _ (by simp; omega)]
      simp [show o + i - min (o + i) c.length = 0 from by omega, show o + i + 1 + vs.length = o + i + (vs.length + 1) from by omega]
    rw [e1] at ht2 hu2
    refine ⟨H2, ?_, ⟨hu2.1.trans hu1.1, hu2.2.1, fun b' hb' => (hu2.2.2 b' hb').trans (hu1.2.2 b' hb')⟩, ht2⟩
    simp only [storeCells, Sem.run_bind, add_lit]
    rw [run_store P _ _ _ _ (h1 v List.mem_cons_self)]
    simp only [hcell, hfr, hs1]
    simpa using hs2
theorem Does.stT {t : TypeId} {x y : Operand} {b o : Nat} {c : List Value} {T : TypeId} {v : Value} (ht : sc P t = true) (hx : ev e x = some (.pointer (some ⟨b, o, none⟩))) (hy : ev e y = some v) (h1 : v.oneCell' = true)
    (hb : OwnT H b c T) (ho : o < c.length) : Does P ⟨dst, .store t x y, ty, pos, aft, gd⟩ e H (fun _ H' => Upd H H' b (c.set o v) ∧ OwnT H' b (c.set o v) T) := by
  intro w0 n a hA K Q hK
  obtain ⟨H1, hs1, hu1, ht1⟩ := setCell_updT w0 H n (o := o) v hb
  have hcell : (mk w0 H n).cell? ⟨b, o, none⟩ = some (c[o]) := by rw [cell_blk rfl hb.blk, List.getElem?_eq_getElem]
  have hfr : (mk w0 H n).frozen? ⟨b, o, none⟩ = false := frozen_own rfl hb.own
  have hcs : v.cells = #[v] := by cases v <;> first | rfl | cases h1
  have hrun : (execOp a.eval ⟨dst, .store t x y, ty, pos, aft, gd⟩).run P (mk w0 H n) = .ok .skip (mk w0 H1 n) := by
    simp only [execOp, hA.ev hx, hA.ev hy, Instr.storeAt, Instr.sureAddr, storeVar, Sem.run_bind, Sem.run_pure, Result.andThen_ok, sc_size ht, hcs]
    simp only [List.size_toArray, List.length_cons, List.length_nil, Nat.zero_add, ne_eq, not_true_eq_false, if_false, Sem.run_pure, storeCells, Sem.run_bind, add_lit, Nat.add_zero]
    rw [run_store P _ _ _ _ h1]
    simp [hcell, hfr, hs1]
  unfold Oper.wp
  rw [hrun]
  exact hK _ H1 n ⟨hu1, ht1⟩
theorem Does.stnT {t : TypeId} {x y : Operand} {b o m : Nat} {c vs : List Value} {T : TypeId} (ht : ag P t = some m) (hx : ev e x = some (.pointer (some ⟨b, o, none⟩))) (hy : ev e y = some (.agg vs.toArray)) (h1 : ones vs = true)
    (hl : vs.length = m) (hb : OwnT H b c T) (ho : o + m ≤ c.length) : Does P ⟨dst, .store t x y, ty, pos, aft, gd⟩ e H (fun _ H' => Upd H H' b (c.take o ++ vs ++ c.drop (o + m)) ∧ OwnT H' b (c.take o ++ vs ++ c.drop (o + m)) T) := by
  intro w0 n a hA K Q hK
  subst hl
  obtain ⟨H1, hs1, hu1, ht1⟩ := storeCells_runT (P := P) w0 n b T vs o 0 c H hb (by omega) (fun v hv => by simp only [ones, List.all_eq_true] at h1; exact h1 v hv)
  have hrun : (execOp a.eval ⟨dst, .store t x y, ty, pos, aft, gd⟩).run P (mk w0 H n) = .ok .skip (mk w0 H1 n) := by
    simp only [execOp, hA.ev hx, hA.ev hy, Instr.storeAt, Instr.sureAddr, storeVar, Sem.run_bind, Sem.run_pure, Result.andThen_ok, ag_size ht, Value.cells]
    simp [hs1]
  unfold Oper.wp
  rw [hrun]
  simp only [Nat.add_zero] at hu1 ht1
  exact hK _ H1 n ⟨hu1, ht1⟩
end
end Go.Fx
