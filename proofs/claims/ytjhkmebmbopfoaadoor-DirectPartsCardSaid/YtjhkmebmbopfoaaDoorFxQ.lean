/-
  A slice of the call's own that may be written, not appended to.
-/
import Derived.Test.YtjhkmebmbopfoaaDoorFxP
namespace Go.Fx
set_option linter.unusedSimpArgs false
set_option linter.unusedVariables false
open Go

def Gw (H : Heap) (B s : Nat) (A : Option Addr) (cap n : Nat) (xs : List Value) : Prop :=
  xs.length = n * s ∧ n ≤ cap ∧ cap ≤ maxLen ∧ (A = none → cap = 0) ∧ (n = 0 ∨ ∃ g c, A = some ⟨g, 0, none⟩ ∧ B ≤ g ∧ Own H g c ∧ c.take (n * s) = xs)
section
variable {H H' : Heap} {B s cap n : Nat} {A : Option Addr} {xs : List Value}
theorem OwnS.gw {el : TypeId} (h : OwnS H B el s (.slice A n cap) n xs) : Gw H B s A cap n xs := by
  obtain ⟨h0, ⟨h1, h2⟩ | ⟨g, cap', cur, h1, h2, h3, h4, h5, h6, h7⟩⟩ := h
  · cases h1; exact ⟨h0, Nat.le_refl _, by decide, fun _ => rfl, .inl h2⟩
  · cases h1; exact ⟨h0, h4, h5, (fun h => by cases h), .inr ⟨g, cur.toList, rfl, h2, ⟨el, by simpa using h3⟩, h7⟩⟩
theorem Gw.via {S : Nat → Prop} (h : Gw H B s A cap n xs) (he : But S H H') (hs : n ≠ 0 → ∀ g : Nat, (g : Int) = ob A → ¬ S g) : Gw H' B s A cap n xs := by
  obtain ⟨h0, h1, h2, h3, h4⟩ := h
  refine ⟨h0, h1, h2, h3, ?_⟩
  by_cases hn : n = 0
  · exact .inl hn
  · obtain ⟨g, c, rfl, hb, ho, hc⟩ := h4.resolve_left hn
    exact .inr ⟨g, c, rfl, hb, ho.but he (hs hn g rfl), hc⟩
theorem Gw.ext (h : Gw H B s A cap n xs) (he : Ext H H') : Gw H' B s A cap n xs := h.via (S := fun _ => False) he.but (fun _ _ _ h => h)
theorem Gw.upw {b : Nat} {c : List Value} (h : Gw H B s A cap n xs) (u : Upd H H' b c) (hb : n = 0 ∨ ob A ≠ b) : Gw H' B s A cap n xs :=
  h.via u.but fun h0 g hg e => by subst e; exact (hb.resolve_left h0) hg.symm
theorem Gw.lt (h : Gw H B s A cap n xs) : n = 0 ∨ ((B : Int) ≤ ob A ∧ ob A < H.size) := by
  obtain ⟨_, _, _, _, h4 | ⟨g, c, rfl, hb, ho, _⟩⟩ := h
  · exact .inl h4
  · exact .inr ⟨by rw [ob_some]; omega, by rw [ob_some]; exact Int.ofNat_lt.2 ho.lt⟩
theorem Gw.mono {B' : Nat} (h : Gw H B s A cap n xs) (hb : B' ≤ B) : Gw H B' s A cap n xs := by
  obtain ⟨h0, h1, h2, h3, h4⟩ := h
  exact ⟨h0, h1, h2, h3, h4.imp id fun ⟨g, c, h5, h6, h7⟩ => ⟨g, c, h5, by omega, h7⟩⟩
theorem Gw.sl {α : Type} {enc : α → List Value} {L : List α} (hL : Wide enc s L) (hs : 0 < s) (h : Gw H B s A cap L.length (L.flatMap enc)) : SlT H enc s (.slice A L.length cap) L := by
  obtain ⟨h0, h1, h2, h3, h4 | ⟨g, c, rfl, hb, ho, hc⟩⟩ := h
  · exact ⟨A, cap, rfl, h1, h2, h3, .inl h4⟩
  · exact sl_of hL hs ho.blk (by rw [List.drop_zero]; exact hc) h1 h2
theorem own_slice' {el : TypeId} {v : Value} (h : OwnS H B el s v n xs) : ∃ A cap, v = .slice A n cap ∧ True := by
  obtain ⟨_, ⟨rfl, rfl⟩ | ⟨g, cap, cur, rfl, h2, _⟩⟩ := h
  · exact ⟨none, 0, rfl, trivial⟩
  · exact ⟨_, _, rfl, trivial⟩
theorem Gw.nil : Gw H B s none 0 0 [] := ⟨by simp, Nat.le_refl _, by decide, fun _ => rfl, .inl rfl⟩
end
theorem flat_e1 (L : List Int) : L.flatMap e1 = Is L := by
  induction L with
  | nil => rfl
  | cons x L ih => rw [List.flatMap_cons, ih]; rfl
theorem rd1 {c : List Value} {M : List Int} {n i : Nat} (h : c.take n = Is M) (hi : i < M.length) : c[0 + (i : Int).toNat * 1]? = some (I (M.getD i 0)) := by
  rw [show 0 + (i : Int).toNat * 1 = i by omega]
  exact tk_at h (at_Is hi)
theorem wr1 {c : List Value} {M : List Int} {n i : Nat} (h : c.take n = Is M) (v : Int) : (c.set (0 + (i : Int).toNat * 1) (I v)).take n = Is (M.set i v) := by
  rw [show 0 + (i : Int).toNat * 1 = i by omega, List.take_set, h, Is_set]
theorem tk_len {c : List Value} {M : List Int} {n : Nat} (h : c.take n = Is M) (hl : M.length = n) : n ≤ c.length := by
  have := congrArg List.length h
  rw [List.length_take] at this; simp at this; omega
theorem Does.bsl1T {P : Program} {dst : Option Tmp} {ty : TypeId} {pos : String} {aft : Array Edge} {gd : Option (Nat × Bool)} {e : Env} {H : Heap} {t el0 : TypeId} {len : Nat} {parts : List (Nat × Operand)} {vs : List Value} (ht : sl1 P t = true) (hu0 : P.underlying t = some (.slice el0)) (hp : prow 0 parts = true) (hv : evs e (parts.map (·.2)) = some vs) (h1 : onesB vs = true)
    (hl : vs.length = len) (hb : Nat.ble len 16777216 = true) : Does P ⟨dst, .buildSlice t len parts.toArray, ty, pos, aft, gd⟩ e H (fun u H' => u = .slice (some ⟨H.size, 0, none⟩) len len ∧ H' = H.push (.cells vs.toArray el0 (0, 0))) := by
  intro w0 n a hA K Q hK
  unfold sl1 at ht
  split at ht
  case h_2 => cases ht
  rename_i el hu
  obtain rfl : el = el0 := by rw [hu] at hu0; cases hu0; rfl
  split at ht
  case h_2 => cases ht
  rename_i i hi
  simp only [Bool.and_eq_true, beq_iff_eq] at ht
  obtain ⟨hsz, hz⟩ := ht
  split at hz
  case h_2 => cases hz
  rename_i z hzz
  have e1 := hA.evs hv
  rw [List.map_map] at e1
  have e2 := prow_map a.eval 0 parts hp
  have e3 : parts.map (fun p => a.eval p.2) = vs := e1
  rw [e3] at e2
  have hfill : ∀ zs : List Value, zs.length = len → Instr.fill (fun i => some (i * 1, 1)) zs.toArray (parts.map fun p => (p.1, a.eval p.2)) = some vs.toArray := by
    intro zs hzs
    rw [e2]
    have := fill_ones 1 rfl vs [] zs 0 (onesB_cells h1) rfl (by rw [hzs, hl])
    simpa using this
  have hrun : (execOp a.eval ⟨dst, .buildSlice t len parts.toArray, ty, pos, aft, gd⟩).run P (mk w0 H n) = .ok (.value (.slice (some ⟨H.size, 0, none⟩) len len)) (mk w0 (H.push (.cells vs.toArray el)) n) := by
    have hlen : len ≤ 16777216 := by simpa [Nat.ble_eq] using hb
    simp only [execOp, Instr.buildSlice, Sem.run_bind, run_underlying hu, Result.andThen_ok, run_sizeOf' hi, hsz]
    rw [if_neg (by omega)]
    simp only [Sem.run_pure, Result.andThen_ok, Nat.mul_one]
    have key : ∀ zr : Array Value, Instr.fill (fun i => some (i, 1)) (Array.map (fun x => zr[x % zr.size]!) (Array.range len)) (List.map (fun p : Nat × Operand => (p.1, a.eval p.2)) parts) = some vs.toArray := by
      intro zr
      have := hfill ((Array.range len).map (fun x => zr[x % zr.size]!)).toList (by simp)
      simpa only [Nat.mul_one, Array.toArray_toList] using this
    have hz' : (zeroValue el).run P (mk w0 H n) = .ok z (mk w0 H n) := by simp [zeroValue, typeInfo, hi, hzz]
    by_cases h0 : len = 0
    · rw [if_pos h0]
      simp only [Sem.run_bind, Sem.run_pure, Result.andThen_ok, List.map_toArray, key, newRow_run]
    · rw [if_neg h0]
      simp only [Sem.run_bind, Sem.run_pure, Result.andThen_ok, List.map_toArray, key, newRow_run, hz']
  unfold Oper.wp
  rw [hrun]
  exact hK _ _ n ⟨rfl, rfl⟩
end Go.Fx
