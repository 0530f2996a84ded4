/-
  Rules of strings: a byte, the part ahead.
-/
import Derived.Test.YtjhkmebmbopfoaaFxH
import Derived.Test.YtjhkmebmbopfoaaFxF
import Derived.Test.YtjhkmebmbopfoaaFxM
namespace Go.Fx
set_option linter.unusedSimpArgs false
set_option linter.unusedVariables false
open Go
section strs
variable {P : Program} {dst : Option Tmp} {ty : TypeId} {pos : String} {aft : Array Edge} {gd : Option (Nat × Bool)} {e : Env} {H : Heap}
theorem Pur.cutS {t : TypeId} {x y : Operand} {s : ByteArray} {k : IntKind} {h : Int} (hu : P.underlying t = some .string) (hx : ev e x = some (.string s)) (hy : ev e y = some (.int k h)) (h0 : 0 ≤ h) (h1 : h ≤ s.size) :
    Pur P ⟨dst, .slice t x none (some y) none, ty, pos, aft, gd⟩ e (.string (s.extract 0 h.toNat)) := by
  intro a w hA
  have e1 := hA.ev hx
  have e2 := hA.ev hy
  simp only [execOp, e1, e2, Option.map_some, Option.map_none, Instr.sliceAt, Sem.run_bind, run_underlying hu, Result.andThen_ok, Instr.slice, Instr.sliceBounds, Sem.run_pure, Instr.sliceBound, asIntOf]
  simp [h0, h1]
theorem Pur.idxS {t : TypeId} {x y : Operand} {s : ByteArray} {k : IntKind} {i : Int} (hu : P.underlying t = some .string) (hx : ev e x = some (.string s)) (hy : ev e y = some (.int k i)) (h0 : 0 ≤ i) (h1 : i < s.size) :
    Pur P ⟨dst, .index t x y, ty, pos, aft, gd⟩ e (.int .u8 ((s.data[i.toNat]!).toNat : Int)) := by
  intro a w hA
  have hb : i.toNat < s.size := by omega
  have h2 : s[i.toNat]? = some s.data[i.toNat]! := by
    rw [getElem?_pos s i.toNat hb]
    congr 1
    rw [getElem!_pos s.data i.toNat hb]
    rfl
  simp [execOp, hA.ev hx, hA.ev hy, Instr.index, asIntOf, run_underlying hu, h0, h2]
theorem min_fold (w : World) : ∀ (as : List Int) (a : Int), ((as.map (Value.int .i64)).foldlM Builtin.min2 (.int .i64 a)).run P w = .ok (.int .i64 (as.foldl min a)) w
  | [], a => by simp
  | b :: as, a => by
    have h : (if b < a then b else a) = min a b := by omega
    simp only [List.map_cons, List.foldlM_cons, Sem.run_bind, Builtin.min2, Sem.run_pure, Result.andThen_ok, List.foldl_cons, h, min_fold w as]
theorem Pur.mins (as : List Int) {xs : List Operand} {ats : Array TypeId} {a : Int} (hx : evs e xs = some (.int .i64 a :: as.map (Value.int .i64))) :
    Pur P ⟨dst, .call { callee := .builtin .min, args := xs.toArray, argTypes := ats }, ty, pos, aft, gd⟩ e (.int .i64 (as.foldl min a)) := by
  intro A w hA
  obtain ⟨cs, h⟩ := run_call_builtin (P := P) (dst := dst) (b := .min) (xs := xs) (ats := ats) (ty := ty) (pos := pos) (aft := aft) (gd := gd) A w hA hx
  rw [h]
  simp only [builtin, Builtin.min_, Sem.run_bind, min_fold, Result.andThen_ok, Sem.run_pure]
theorem Pur.min2 {t : TypeId} {x y : Operand} {a b : Int} (hx : ev e x = some (.int .i64 a)) (hy : ev e y = some (.int .i64 b)) :
    Pur P ⟨dst, .call { callee := .builtin .min, args := #[x, y], argTypes := #[t, t] }, ty, pos, aft, gd⟩ e (.int .i64 (min a b)) :=
  Pur.mins [b] (xs := [x, y]) (by simp [evs, hx, hy])
/-- append, of cells -/
theorem Does.appS {t el : TypeId} {x y : Operand} {s by' B cap n m : Nat} {A : Option Addr} {u : Value} {xs news : List Value}
    (ht : appT P t = some (el, s, by')) (hx : ev e x = some (.slice A n cap)) (hy : ev e y = some u) (hb1 : 1 ≤ by') (hown : Gs H B el s A cap n xs) (hsrc : Src H u s m news) (h1 : ones news = true)
    (hby : (n + m) * by' ≤ 140737488355328) (hB : B ≤ H.size) :
    Does P ⟨dst, .call { callee := .builtin .append, args := #[x, y], argTypes := #[t, t] }, ty, pos, aft, gd⟩ e H (fun v' H' => ∃ A' cap', v' = .slice A' (n + m) cap' ∧ Gs H' B el s A' cap' (n + m) (xs ++ news) ∧
      But (fun g => (g : Int) = ob A) H H' ∧ (ob A' = ob A ∨ ob A' = H.size)) := by
  have h63 : n + m ≤ maxLen := by
    have : (n + m) * 1 ≤ (n + m) * by' := Nat.mul_le_mul_left _ hb1
    rw [show maxLen = 9223372036854775807 from rfl]; omega
  refine (Does.app ht hx hy hown hsrc h1 h63 hby hB).mono ?_
  rintro v' H' ⟨ho, hbut, hnil, hbl⟩
  have hq : ∃ A' cap', v' = .slice A' (n + m) cap' := by
    obtain ⟨_, ⟨rfl, h0⟩ | ⟨g, cap, cur, rfl, _⟩⟩ := ho
    · exact ⟨none, 0, by rw [h0]⟩
    · exact ⟨_, _, rfl⟩
  obtain ⟨A', cap', rfl⟩ := hq
  refine ⟨A', cap', rfl, ho, hbut.mono ?_, ?_⟩
  · intro b hb h
    exact (gs_ob h).symm
  · cases A' with
    | none =>
      have : A = none := by
        cases A with
        | none => rfl
        | some a =>
          obtain ⟨_, ⟨h, h0⟩ | ⟨g, cap, cur, h, _⟩⟩ := ho
          · simp only [Value.slice.injEq, true_and] at h
            have := (hnil.1 (by rw [h.1, h.2])).1
            cases this
          · cases h
      subst this; exact .inl rfl
    | some a' =>
      have he : (Value.slice (some a') (n + m) cap').ownBlock = some a'.block := rfl
      rcases hbl with h | h
      · rw [he] at h; exact .inl (by rw [gs_ob h.symm]; rfl)
      · rw [he] at h; injection h with h; exact .inr (by simp [ob, h])
end strs
end Go.Fx
