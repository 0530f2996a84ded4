/-
  Nodes: what the reading of arguments tells.
-/
import Derived.Test.YtjhkmebmbopfoaaDoorNodL
import Derived.Test.YtjhkmebmbopfoaaDoorFxS
namespace Go.Proofs.YtjhkmebmbopfoaaDoor
set_option linter.unusedSimpArgs false
set_option linter.unusedVariables false
set_option maxRecDepth 8000
open Go Go.Fx Go.Proofs

theorem str_S (s : ByteArray) : Value.string s = S s.data.toList := by
  show Value.string s = Value.string (bs s.data.toList)
  congr 1
theorem str_len {s : ByteArray} (h : s.size ≤ reachBytes) : s.data.toList.length ≤ 140737488355328 := by
  rw [show s.data.toList.length = s.size by simp]; exact Nat.le_trans h (by decide)
theorem node_of_fits {H : Heap} {cs : List Value} (h : fits H [.int .i64, .int .i64, .int .i64, .int .i64, .int .i64, .str, .str, .str, .str, .int .i64] cs) : ∃ n : Nd, Shr n ∧ cs = eN n := by
  simp only [fits, fitc] at h
  obtain ⟨_, _, rfl, ⟨k, rfl, _⟩, _, _, rfl, ⟨a, rfl, _⟩, _, _, rfl, ⟨b, rfl, _⟩, _, _, rfl, ⟨c, rfl, _⟩, _, _, rfl, ⟨num, rfl, _⟩, _, _, rfl, ⟨nm, rfl, h1⟩, _, _, rfl, ⟨x, rfl, h2⟩, _, _, rfl, ⟨y, rfl, h3⟩, _, _, rfl, ⟨z, rfl, h4⟩, _, _, rfl, ⟨p, rfl, _⟩, rfl⟩ := h
  refine ⟨⟨k, a, b, c, num, nm.data.toList, x.data.toList, y.data.toList, z.data.toList, p⟩, ⟨str_len h1, str_len h2, str_len h3, str_len h4⟩, ?_⟩
  rw [str_S nm, str_S x, str_S y, str_S z]; rfl
theorem nodes_of_fits {H : Heap} {v : Value} (h : fitc H (.sl 112 [.int .i64, .int .i64, .int .i64, .int .i64, .int .i64, .str, .str, .str, .str, .int .i64]) v) :
    ∃ (A : Option Addr) (cap : Nat) (L : List Nd), v = .slice A L.length cap ∧ SlT H eN 10 (.slice A L.length cap) L ∧ Shs L ∧ L.length * 112 ≤ 140737488351232 := by
  obtain ⟨L, hL, hS, hb⟩ := SlT.of_fits (p := Shr) (enc := eN) h (fun cs h => by obtain ⟨n, h1, h2⟩ := node_of_fits h; exact ⟨n, h1, h2⟩)
  have hS' := hS
  obtain ⟨A, cap, rfl, _⟩ := hS'
  exact ⟨A, cap, L, rfl, hS, hL, by rw [show reachBytes = 140737488351232 from rfl] at hb; exact hb⟩
end Go.Proofs.YtjhkmebmbopfoaaDoor
