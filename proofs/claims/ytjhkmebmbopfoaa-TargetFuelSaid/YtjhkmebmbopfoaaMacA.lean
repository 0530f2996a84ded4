/-
  Chapter 21: the machine, plain.
-/
import Derived.Test.YtjhkmebmbopfoaaTgtD
namespace Go.Proofs.Ytjhkmebmbopfoaa
set_option linter.unusedSimpArgs false
set_option linter.unusedVariables false
set_option maxRecDepth 8000
open Go Go.Fx Go.Proofs

/-- values, what binds on, what goes on, computations; and what has names -/
inductive T
  | nil
  | num (n : Int)
  | tru (n : Int)
  | fn (node : Int) (env : T)
  | bnd (node : Int) (env one : T)
  | fwd (one two : T)
  | ret (one : T)
  | op (num : Int) (one two : T)
  | env (v : T) (name : Int) (out : T)
/-- a node that waits for a value -/
structure Fr where
  wait : Int
  node : Int
  env : T
  had : T
inductive St
  | ev (fr : List Fr) (node : Int) (env : T)
  | gv (fr : List Fr) (v : T)
inductive Ou
  | go (s : St)
  | fin (kind num : Int)
def findN : T → Int → T
  | .env v n o, k => if n = k then v else findN o k
  | _, _ => .nil
abbrev wrp (n : Int) : Int := IntKind.i64.wrap n
/-- a prim of two numbers: an outcome's kind and number -/
def prm (k a b : Int) : Int × Int :=
  if k = 4 then (1, if a = b then 1 else 0) else if k = 5 then (1, if a < b then 1 else 0) else
  if k = 3 ∧ b = 0 then (3, 1) else
  let x := if k = 3 then wrp (a.tdiv b) else if k = 2 then wrp (a * b) else if k = 1 then wrp (a - b) else wrp (a + b)
  if x > 1073741823 ∨ x < -1073741824 then (3, 0) else (0, x)
def callM (L : List (List Int)) (fr : List Fr) (f v : T) : Ou :=
  match f with
  | .fn node env => if (el L node).getD 0 0 = 4 then .go (.ev fr ((el L node).getD 1 0) (.env v ((el L node).getD 6 0) (.env f ((el L node).getD 5 0) env)))
      else .go (.ev fr ((el L node).getD 1 0) (.env v ((el L node).getD 5 0) env))
  | .bnd node env one => .go (.gv (⟨2, 0, .nil, one⟩ :: ⟨0, node, env, .nil⟩ :: fr) v)
  | .fwd one two => .go (.gv (⟨2, 0, .nil, one⟩ :: ⟨2, 0, .nil, two⟩ :: fr) v)
  | _ => .fin 5 0
def bindM (x : List Int) (fr : List Fr) (f : Fr) (v : T) : Ou :=
  match v with
  | .ret one => .go (.ev fr (x.getD 2 0) (.env one (x.getD 5 0) f.env))
  | .op n one two => .go (.gv fr (.op n one (.bnd f.node f.env two)))
  | _ => .fin 5 0
def caseM (x : List Int) (fr : List Fr) (f : Fr) (v : T) : Ou :=
  match v with
  | .ret one => .go (.ev fr (x.getD 2 0) (.env one (x.getD 5 0) f.env))
  | .op n one two => if n = x.getD 4 0 then .go (.ev fr (x.getD 3 0) (.env two (x.getD 7 0) (.env one (x.getD 6 0) f.env)))
      else match findN f.env (x.getD 8 0) with
        | .nil => .fin 5 0
        | h => .go (.gv fr (.op n one (.fwd two h)))
  | _ => .fin 5 0
def firstM (L : List (List Int)) (fr : List Fr) (f : Fr) (v : T) : Ou :=
  let x := el L f.node
  let k := x.getD 0 0
  if k = 5 ∨ k = 8 ∨ k = 10 then .go (.ev (⟨1, f.node, .nil, v⟩ :: fr) (x.getD 2 0) f.env)
  else if k = 6 then .go (.ev fr (x.getD 2 0) (.env v (x.getD 5 0) f.env))
  else if k = 7 then match v with
    | .tru n => if n = 1 then .go (.ev fr (x.getD 2 0) f.env) else .go (.ev fr (x.getD 3 0) f.env)
    | _ => .fin 5 0
  else if k = 9 then .go (.gv fr (.ret v))
  else if k = 11 then bindM x fr f v
  else caseM x fr f v
def secondM (L : List (List Int)) (fr : List Fr) (f : Fr) (v : T) : Ou :=
  let x := el L f.node
  if x.getD 0 0 = 5 then callM L fr f.had v
  else if x.getD 0 0 = 10 then .go (.gv fr (.op (x.getD 4 0) f.had v))
  else match f.had, v with
    | .num a, .num b => if (prm (x.getD 4 0) a b).1 = 3 then .fin 3 (prm (x.getD 4 0) a b).2
        else if (prm (x.getD 4 0) a b).1 = 1 then .go (.gv fr (.tru (prm (x.getD 4 0) a b).2)) else .go (.gv fr (.num (prm (x.getD 4 0) a b).2))
    | _, _ => .fin 5 0
def backM (L : List (List Int)) (fr : List Fr) (f : Fr) (v : T) : Ou :=
  if f.wait = 0 then firstM L fr f v else if f.wait = 1 then secondM L fr f v else callM L fr f.had v
def beginM (L : List (List Int)) (fr : List Fr) (node : Int) (env : T) : Ou :=
  let x := el L node
  let k := x.getD 0 0
  if k = 0 then match findN env (x.getD 4 0) with
    | .nil => .fin 5 0
    | v => .go (.gv fr v)
  else if k = 1 then .go (.gv fr (.num (x.getD 4 0)))
  else if k = 2 then .go (.gv fr (.tru (x.getD 4 0)))
  else if k = 3 ∨ k = 4 then .go (.gv fr (.fn node env))
  else .go (.ev (⟨0, node, env, .nil⟩ :: fr) (x.getD 1 0) env)
def stepM (L : List (List Int)) : St → Ou
  | .ev fr node env => beginM L fr node env
  | .gv (f :: fr) v => backM L fr f v
  | .gv [] v => .fin 5 0
def toldM : T → Int × Int
  | .ret one => match one with
    | .num n => (0, n)
    | .tru n => (1, n)
    | .ret _ => (5, 0)
    | .op _ _ _ => (5, 0)
    | _ => (2, 0)
  | _ => (5, 0)
def St.frs : St → List Fr
  | .ev fr _ _ => fr
  | .gv fr _ => fr
/-- the run: what is told, after how many steps -/
def runM (L : List (List Int)) : Nat → Nat → St → (Int × Int) × Nat
  | f, k, s =>
    if 4096 < s.frs.length then ((4, 0), k) else
    match s, f with
    | .gv [] v, _ => (toldM v, k)
    | _, 0 => ((4, 0), k)
    | s, f + 1 => match stepM L s with
      | .fin a b => ((a, b), k + 1)
      | .go s' => runM L f (k + 1) s'
/-! ### what may stand -/
mutual
def T.isV (L : List (List Int)) : T → Prop
  | .num _ => True
  | .tru _ => True
  | .fn node en => 0 ≤ node ∧ node < L.length ∧ ((el L node).getD 0 0 = 3 ∨ (el L node).getD 0 0 = 4) ∧ en.isE L
  | .bnd node en one => 0 ≤ node ∧ node < L.length ∧ (el L node).getD 0 0 = 11 ∧ en.isE L ∧ one.isV L
  | .fwd one two => one.isV L ∧ two.isV L
  | .ret one => one.isV L
  | .op _ one two => one.isV L ∧ two.isV L
  | _ => False
def T.isE (L : List (List Int)) : T → Prop
  | .nil => True
  | .env v _ out => v.isV L ∧ out.isE L
  | _ => False
end
end Go.Proofs.Ytjhkmebmbopfoaa
