/-
  Binds put into a type: what comes of it.
-/
import Derived.Test.YtlfillhffpiffaaSubI
import Derived.Test.YtlfillhffpiffaaFxK
namespace Go.Proofs.Ytlfillhffpiffaa
set_option linter.unusedSimpArgs false
set_option linter.unusedVariables false
set_option maxRecDepth 8000
open Go Go.Fx Go.Proofs

/-- a function's node with its parts and its row put in -/
def funS (x : List Int) (a b : Int) (r : List Int) : List Int := ((x.set 2 a).set 3 b).take 4 ++ r
/-- what one node becomes; none: a count is too great -/
def moreS (Bs : List Bd) (out : List (List Int)) (ends : List Int) (x : List Int) : Option (List (List Int)) :=
  if x.getD 0 0 = 2 then match Bs.find? (mt false (x.getD 1 0)) with
    | some bd => some (bd.nodes.map (movS out.length))
    | none => some [x]
  else if x.getD 0 0 = 3 then
    if (rowS Bs (x.drop 4)).2 then some [funS x (ends.getD (x.getD 2 0).toNat 0) (ends.getD (x.getD 3 0).toNat 0) (rowS Bs (x.drop 4)).1] else none
  else some [x]
def goS (Bs : List Bd) : List (List Int) → List (List Int) → List Int → Option (List (List Int))
  | [], out, _ => some out
  | x :: xs, out, ends => match moreS Bs out ends x with
    | none => none
    | some m => if 256 < out.length + m.length then none else goS Bs xs (out ++ m) (ends ++ [((out.length + m.length : Nat) : Int) - 1])
def typS (Bs : List Bd) (L : List (List Int)) : Option (List (List Int)) := goS Bs L [] []

theorem nine_more {Bs : List Bd} {out : List (List Int)} {ends : List Int} {x : List Int} {m : List (List Int)} (hB : ∀ b ∈ Bs, Nine b.nodes) (hr : (rowS Bs (x.drop 4)).1.length = 5) (hx : x.length = 9)
    (h : moreS Bs out ends x = some m) : Nine m := by
  unfold moreS at h
  split at h
  · split at h
    · rename_i bd hq
      cases h
      exact nine_mov (hB bd (List.mem_of_find?_eq_some hq))
    · cases h; intro y hy; simp at hy; subst hy; exact hx
  · split at h
    · split at h
      · cases h; intro y hy; simp at hy; subst hy
        simp [funS, hr, hx]
      · cases h
    · cases h; intro y hy; simp at hy; subst hy; exact hx
end Go.Proofs.Ytlfillhffpiffaa
