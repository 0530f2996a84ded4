/-
  TrammelNames: every error, limit and kind is the document's. No conditions.
-/
import Derived.Test.YtkniihjfcagdbaaFxL
import Derived.Test.YtkniihjfcagdbaaRows
namespace Go.Proofs.Ytkniihjfcagdbaa
set_option linter.unusedSimpArgs false
set_option linter.unusedVariables false
open Go Go.Fx Go.Proofs
namespace FactsLaw0

end FactsLaw0
open FactsLaw0

theorem num_ok (n : Int) (H : Heap) (h : -9223372036854775808 ≤ n ∧ n ≤ 9223372036854775807) : Ret Try.prog 22 [.int .i64 n] H (fun v H' => v = .int .i64 n ∧ H' = H) := by
  refine Ret.of_at (N := 4) Try.call22 Try.func22 rfl rfl rfl ?_
  refine At.region rfl rfl ?_
  refine Reg.pur rfl rfl rfl rfl (Pur.asg rfl) ?_
  refine Reg.nil ?_
  refine At.region rfl rfl ?_
  refine Reg.pur rfl rfl rfl rfl (Pur.mv rfl) ?_
  refine Reg.pur rfl rfl rfl rfl (Pur.asg rfl) ?_
  refine Reg.nil ?_
  refine At.ret rfl Try.func22 rfl ?_
  exact ⟨rfl, rfl⟩

theorem errors1_ok (H : Heap) : Ret Try.prog 10 [] H (fun v H' => v = .bool true ∧ H' = H) := by
  refine Ret.of_at (N := 55) Try.call10 Try.func10 rfl rfl rfl ?_
  refine At.region rfl rfl ?_
  refine Reg.pur rfl rfl rfl rfl (Pur.asg rfl) ?_
  refine Reg.nil ?_
  refine At.region rfl rfl ?_
  refine Reg.op rfl rfl rfl rfl (Does.call rfl (num_ok _ _ (by decide))) ?_
  rintro _ _ ⟨rfl, rfl⟩
  refine Reg.pur rfl rfl rfl rfl (Pur.eql rfl rfl) ?_
  refine Reg.pur rfl rfl rfl rfl (Pur.mv rfl) ?_
  refine Reg.known (b' := true) 3 rfl (by rfl) ?_
  refine Reg.gop rfl rfl rfl rfl rfl rfl (Does.call rfl (num_ok _ _ (by decide))) ?_
  rintro _ _ ⟨rfl, rfl⟩
  refine Reg.gpur rfl rfl rfl rfl rfl rfl (Pur.eql rfl rfl) ?_
  refine Reg.pur rfl rfl rfl rfl (Pur.pickT rfl rfl) ?_
  refine Reg.pur rfl rfl rfl rfl (Pur.mv rfl) ?_
  refine Reg.known (b' := true) 7 rfl (by rfl) ?_
  refine Reg.gop rfl rfl rfl rfl rfl rfl (Does.call rfl (num_ok _ _ (by decide))) ?_
  rintro _ _ ⟨rfl, rfl⟩
  refine Reg.gpur rfl rfl rfl rfl rfl rfl (Pur.eql rfl rfl) ?_
  refine Reg.pur rfl rfl rfl rfl (Pur.pickT rfl rfl) ?_
  refine Reg.pur rfl rfl rfl rfl (Pur.mv rfl) ?_
  refine Reg.known (b' := true) 11 rfl (by rfl) ?_
  refine Reg.gop rfl rfl rfl rfl rfl rfl (Does.call rfl (num_ok _ _ (by decide))) ?_
  rintro _ _ ⟨rfl, rfl⟩
  refine Reg.gpur rfl rfl rfl rfl rfl rfl (Pur.eql rfl rfl) ?_
  refine Reg.pur rfl rfl rfl rfl (Pur.pickT rfl rfl) ?_
  refine Reg.pur rfl rfl rfl rfl (Pur.mv rfl) ?_
  refine Reg.known (b' := true) 15 rfl (by rfl) ?_
  refine Reg.gop rfl rfl rfl rfl rfl rfl (Does.call rfl (num_ok _ _ (by decide))) ?_
  rintro _ _ ⟨rfl, rfl⟩
  refine Reg.gpur rfl rfl rfl rfl rfl rfl (Pur.eql rfl rfl) ?_
  refine Reg.pur rfl rfl rfl rfl (Pur.pickT rfl rfl) ?_
  refine Reg.pur rfl rfl rfl rfl (Pur.mv rfl) ?_
  refine Reg.known (b' := true) 19 rfl (by rfl) ?_
  refine Reg.gop rfl rfl rfl rfl rfl rfl (Does.call rfl (num_ok _ _ (by decide))) ?_
  rintro _ _ ⟨rfl, rfl⟩
  refine Reg.gpur rfl rfl rfl rfl rfl rfl (Pur.eql rfl rfl) ?_
  refine Reg.pur rfl rfl rfl rfl (Pur.pickT rfl rfl) ?_
  refine Reg.pur rfl rfl rfl rfl (Pur.mv rfl) ?_
  refine Reg.known (b' := true) 23 rfl (by rfl) ?_
  refine Reg.gop rfl rfl rfl rfl rfl rfl (Does.call rfl (num_ok _ _ (by decide))) ?_
  rintro _ _ ⟨rfl, rfl⟩
  refine Reg.gpur rfl rfl rfl rfl rfl rfl (Pur.eql rfl rfl) ?_
  refine Reg.pur rfl rfl rfl rfl (Pur.pickT rfl rfl) ?_
  refine Reg.pur rfl rfl rfl rfl (Pur.mv rfl) ?_
  refine Reg.known (b' := true) 27 rfl (by rfl) ?_
  refine Reg.gop rfl rfl rfl rfl rfl rfl (Does.call rfl (num_ok _ _ (by decide))) ?_
  rintro _ _ ⟨rfl, rfl⟩
  refine Reg.gpur rfl rfl rfl rfl rfl rfl (Pur.eql rfl rfl) ?_
  refine Reg.pur rfl rfl rfl rfl (Pur.pickT rfl rfl) ?_
  refine Reg.pur rfl rfl rfl rfl (Pur.mv rfl) ?_
  refine Reg.known (b' := true) 31 rfl (by rfl) ?_
  refine Reg.gop rfl rfl rfl rfl rfl rfl (Does.call rfl (num_ok _ _ (by decide))) ?_
  rintro _ _ ⟨rfl, rfl⟩
  refine Reg.gpur rfl rfl rfl rfl rfl rfl (Pur.eql rfl rfl) ?_
  refine Reg.pur rfl rfl rfl rfl (Pur.pickT rfl rfl) ?_
  refine Reg.pur rfl rfl rfl rfl (Pur.mv rfl) ?_
  refine Reg.known (b' := true) 35 rfl (by rfl) ?_
  refine Reg.gop rfl rfl rfl rfl rfl rfl (Does.call rfl (num_ok _ _ (by decide))) ?_
  rintro _ _ ⟨rfl, rfl⟩
  refine Reg.gpur rfl rfl rfl rfl rfl rfl (Pur.eql rfl rfl) ?_
  refine Reg.pur rfl rfl rfl rfl (Pur.pickT rfl rfl) ?_
  refine Reg.pur rfl rfl rfl rfl (Pur.mv rfl) ?_
  refine Reg.known (b' := true) 39 rfl (by rfl) ?_
  refine Reg.gop rfl rfl rfl rfl rfl rfl (Does.call rfl (num_ok _ _ (by decide))) ?_
  rintro _ _ ⟨rfl, rfl⟩
  refine Reg.gpur rfl rfl rfl rfl rfl rfl (Pur.eql rfl rfl) ?_
  refine Reg.pur rfl rfl rfl rfl (Pur.pickT rfl rfl) ?_
  refine Reg.pur rfl rfl rfl rfl (Pur.mv rfl) ?_
  refine Reg.known (b' := true) 43 rfl (by rfl) ?_
  refine Reg.gop rfl rfl rfl rfl rfl rfl (Does.call rfl (num_ok _ _ (by decide))) ?_
  rintro _ _ ⟨rfl, rfl⟩
  refine Reg.gpur rfl rfl rfl rfl rfl rfl (Pur.eql rfl rfl) ?_
  refine Reg.pur rfl rfl rfl rfl (Pur.pickT rfl rfl) ?_
  refine Reg.pur rfl rfl rfl rfl (Pur.mv rfl) ?_
  refine Reg.known (b' := true) 47 rfl (by rfl) ?_
  refine Reg.gop rfl rfl rfl rfl rfl rfl (Does.call rfl (num_ok _ _ (by decide))) ?_
  rintro _ _ ⟨rfl, rfl⟩
  refine Reg.gpur rfl rfl rfl rfl rfl rfl (Pur.eql rfl rfl) ?_
  refine Reg.pur rfl rfl rfl rfl (Pur.pickT rfl rfl) ?_
  refine Reg.pur rfl rfl rfl rfl (Pur.mv rfl) ?_
  refine Reg.known (b' := true) 51 rfl (by rfl) ?_
  refine Reg.gop rfl rfl rfl rfl rfl rfl (Does.call rfl (num_ok _ _ (by decide))) ?_
  rintro _ _ ⟨rfl, rfl⟩
  refine Reg.gpur rfl rfl rfl rfl rfl rfl (Pur.eql rfl rfl) ?_
  refine Reg.pur rfl rfl rfl rfl (Pur.pickT rfl rfl) ?_
  refine Reg.pur rfl rfl rfl rfl (Pur.asg rfl) ?_
  refine Reg.nil ?_
  refine At.ret rfl Try.func10 rfl ?_
  exact ⟨rfl, rfl⟩
theorem errors2_ok (H : Heap) : Ret Try.prog 11 [] H (fun v H' => v = .bool true ∧ H' = H) := by
  refine Ret.of_at (N := 55) Try.call11 Try.func11 rfl rfl rfl ?_
  refine At.region rfl rfl ?_
  refine Reg.pur rfl rfl rfl rfl (Pur.asg rfl) ?_
  refine Reg.nil ?_
  refine At.region rfl rfl ?_
  refine Reg.op rfl rfl rfl rfl (Does.call rfl (num_ok _ _ (by decide))) ?_
  rintro _ _ ⟨rfl, rfl⟩
  refine Reg.pur rfl rfl rfl rfl (Pur.eql rfl rfl) ?_
  refine Reg.pur rfl rfl rfl rfl (Pur.mv rfl) ?_
  refine Reg.known (b' := true) 3 rfl (by rfl) ?_
  refine Reg.gop rfl rfl rfl rfl rfl rfl (Does.call rfl (num_ok _ _ (by decide))) ?_
  rintro _ _ ⟨rfl, rfl⟩
  refine Reg.gpur rfl rfl rfl rfl rfl rfl (Pur.eql rfl rfl) ?_
  refine Reg.pur rfl rfl rfl rfl (Pur.pickT rfl rfl) ?_
  refine Reg.pur rfl rfl rfl rfl (Pur.mv rfl) ?_
  refine Reg.known (b' := true) 7 rfl (by rfl) ?_
  refine Reg.gop rfl rfl rfl rfl rfl rfl (Does.call rfl (num_ok _ _ (by decide))) ?_
  rintro _ _ ⟨rfl, rfl⟩
  refine Reg.gpur rfl rfl rfl rfl rfl rfl (Pur.eql rfl rfl) ?_
  refine Reg.pur rfl rfl rfl rfl (Pur.pickT rfl rfl) ?_
  refine Reg.pur rfl rfl rfl rfl (Pur.mv rfl) ?_
  refine Reg.known (b' := true) 11 rfl (by rfl) ?_
  refine Reg.gop rfl rfl rfl rfl rfl rfl (Does.call rfl (num_ok _ _ (by decide))) ?_
  rintro _ _ ⟨rfl, rfl⟩
  refine Reg.gpur rfl rfl rfl rfl rfl rfl (Pur.eql rfl rfl) ?_
  refine Reg.pur rfl rfl rfl rfl (Pur.pickT rfl rfl) ?_
  refine Reg.pur rfl rfl rfl rfl (Pur.mv rfl) ?_
  refine Reg.known (b' := true) 15 rfl (by rfl) ?_
  refine Reg.gop rfl rfl rfl rfl rfl rfl (Does.call rfl (num_ok _ _ (by decide))) ?_
  rintro _ _ ⟨rfl, rfl⟩
  refine Reg.gpur rfl rfl rfl rfl rfl rfl (Pur.eql rfl rfl) ?_
  refine Reg.pur rfl rfl rfl rfl (Pur.pickT rfl rfl) ?_
  refine Reg.pur rfl rfl rfl rfl (Pur.mv rfl) ?_
  refine Reg.known (b' := true) 19 rfl (by rfl) ?_
  refine Reg.gop rfl rfl rfl rfl rfl rfl (Does.call rfl (num_ok _ _ (by decide))) ?_
  rintro _ _ ⟨rfl, rfl⟩
  refine Reg.gpur rfl rfl rfl rfl rfl rfl (Pur.eql rfl rfl) ?_
  refine Reg.pur rfl rfl rfl rfl (Pur.pickT rfl rfl) ?_
  refine Reg.pur rfl rfl rfl rfl (Pur.mv rfl) ?_
  refine Reg.known (b' := true) 23 rfl (by rfl) ?_
  refine Reg.gop rfl rfl rfl rfl rfl rfl (Does.call rfl (num_ok _ _ (by decide))) ?_
  rintro _ _ ⟨rfl, rfl⟩
  refine Reg.gpur rfl rfl rfl rfl rfl rfl (Pur.eql rfl rfl) ?_
  refine Reg.pur rfl rfl rfl rfl (Pur.pickT rfl rfl) ?_
  refine Reg.pur rfl rfl rfl rfl (Pur.mv rfl) ?_
  refine Reg.known (b' := true) 27 rfl (by rfl) ?_
  refine Reg.gop rfl rfl rfl rfl rfl rfl (Does.call rfl (num_ok _ _ (by decide))) ?_
  rintro _ _ ⟨rfl, rfl⟩
  refine Reg.gpur rfl rfl rfl rfl rfl rfl (Pur.eql rfl rfl) ?_
  refine Reg.pur rfl rfl rfl rfl (Pur.pickT rfl rfl) ?_
  refine Reg.pur rfl rfl rfl rfl (Pur.mv rfl) ?_
  refine Reg.known (b' := true) 31 rfl (by rfl) ?_
  refine Reg.gop rfl rfl rfl rfl rfl rfl (Does.call rfl (num_ok _ _ (by decide))) ?_
  rintro _ _ ⟨rfl, rfl⟩
  refine Reg.gpur rfl rfl rfl rfl rfl rfl (Pur.eql rfl rfl) ?_
  refine Reg.pur rfl rfl rfl rfl (Pur.pickT rfl rfl) ?_
  refine Reg.pur rfl rfl rfl rfl (Pur.mv rfl) ?_
  refine Reg.known (b' := true) 35 rfl (by rfl) ?_
  refine Reg.gop rfl rfl rfl rfl rfl rfl (Does.call rfl (num_ok _ _ (by decide))) ?_
  rintro _ _ ⟨rfl, rfl⟩
  refine Reg.gpur rfl rfl rfl rfl rfl rfl (Pur.eql rfl rfl) ?_
  refine Reg.pur rfl rfl rfl rfl (Pur.pickT rfl rfl) ?_
  refine Reg.pur rfl rfl rfl rfl (Pur.mv rfl) ?_
  refine Reg.known (b' := true) 39 rfl (by rfl) ?_
  refine Reg.gop rfl rfl rfl rfl rfl rfl (Does.call rfl (num_ok _ _ (by decide))) ?_
  rintro _ _ ⟨rfl, rfl⟩
  refine Reg.gpur rfl rfl rfl rfl rfl rfl (Pur.eql rfl rfl) ?_
  refine Reg.pur rfl rfl rfl rfl (Pur.pickT rfl rfl) ?_
  refine Reg.pur rfl rfl rfl rfl (Pur.mv rfl) ?_
  refine Reg.known (b' := true) 43 rfl (by rfl) ?_
  refine Reg.gop rfl rfl rfl rfl rfl rfl (Does.call rfl (num_ok _ _ (by decide))) ?_
  rintro _ _ ⟨rfl, rfl⟩
  refine Reg.gpur rfl rfl rfl rfl rfl rfl (Pur.eql rfl rfl) ?_
  refine Reg.pur rfl rfl rfl rfl (Pur.pickT rfl rfl) ?_
  refine Reg.pur rfl rfl rfl rfl (Pur.mv rfl) ?_
  refine Reg.known (b' := true) 47 rfl (by rfl) ?_
  refine Reg.gop rfl rfl rfl rfl rfl rfl (Does.call rfl (num_ok _ _ (by decide))) ?_
  rintro _ _ ⟨rfl, rfl⟩
  refine Reg.gpur rfl rfl rfl rfl rfl rfl (Pur.eql rfl rfl) ?_
  refine Reg.pur rfl rfl rfl rfl (Pur.pickT rfl rfl) ?_
  refine Reg.pur rfl rfl rfl rfl (Pur.mv rfl) ?_
  refine Reg.known (b' := true) 51 rfl (by rfl) ?_
  refine Reg.gop rfl rfl rfl rfl rfl rfl (Does.call rfl (num_ok _ _ (by decide))) ?_
  rintro _ _ ⟨rfl, rfl⟩
  refine Reg.gpur rfl rfl rfl rfl rfl rfl (Pur.eql rfl rfl) ?_
  refine Reg.pur rfl rfl rfl rfl (Pur.pickT rfl rfl) ?_
  refine Reg.pur rfl rfl rfl rfl (Pur.asg rfl) ?_
  refine Reg.nil ?_
  refine At.ret rfl Try.func11 rfl ?_
  exact ⟨rfl, rfl⟩
theorem errors3_ok (H : Heap) : Ret Try.prog 12 [] H (fun v H' => v = .bool true ∧ H' = H) := by
  refine Ret.of_at (N := 55) Try.call12 Try.func12 rfl rfl rfl ?_
  refine At.region rfl rfl ?_
  refine Reg.pur rfl rfl rfl rfl (Pur.asg rfl) ?_
  refine Reg.nil ?_
  refine At.region rfl rfl ?_
  refine Reg.op rfl rfl rfl rfl (Does.call rfl (num_ok _ _ (by decide))) ?_
  rintro _ _ ⟨rfl, rfl⟩
  refine Reg.pur rfl rfl rfl rfl (Pur.eql rfl rfl) ?_
  refine Reg.pur rfl rfl rfl rfl (Pur.mv rfl) ?_
  refine Reg.known (b' := true) 3 rfl (by rfl) ?_
  refine Reg.gop rfl rfl rfl rfl rfl rfl (Does.call rfl (num_ok _ _ (by decide))) ?_
  rintro _ _ ⟨rfl, rfl⟩
  refine Reg.gpur rfl rfl rfl rfl rfl rfl (Pur.eql rfl rfl) ?_
  refine Reg.pur rfl rfl rfl rfl (Pur.pickT rfl rfl) ?_
  refine Reg.pur rfl rfl rfl rfl (Pur.mv rfl) ?_
  refine Reg.known (b' := true) 7 rfl (by rfl) ?_
  refine Reg.gop rfl rfl rfl rfl rfl rfl (Does.call rfl (num_ok _ _ (by decide))) ?_
  rintro _ _ ⟨rfl, rfl⟩
  refine Reg.gpur rfl rfl rfl rfl rfl rfl (Pur.eql rfl rfl) ?_
  refine Reg.pur rfl rfl rfl rfl (Pur.pickT rfl rfl) ?_
  refine Reg.pur rfl rfl rfl rfl (Pur.mv rfl) ?_
  refine Reg.known (b' := true) 11 rfl (by rfl) ?_
  refine Reg.gop rfl rfl rfl rfl rfl rfl (Does.call rfl (num_ok _ _ (by decide))) ?_
  rintro _ _ ⟨rfl, rfl⟩
  refine Reg.gpur rfl rfl rfl rfl rfl rfl (Pur.eql rfl rfl) ?_
  refine Reg.pur rfl rfl rfl rfl (Pur.pickT rfl rfl) ?_
  refine Reg.pur rfl rfl rfl rfl (Pur.mv rfl) ?_
  refine Reg.known (b' := true) 15 rfl (by rfl) ?_
  refine Reg.gop rfl rfl rfl rfl rfl rfl (Does.call rfl (num_ok _ _ (by decide))) ?_
  rintro _ _ ⟨rfl, rfl⟩
  refine Reg.gpur rfl rfl rfl rfl rfl rfl (Pur.eql rfl rfl) ?_
  refine Reg.pur rfl rfl rfl rfl (Pur.pickT rfl rfl) ?_
  refine Reg.pur rfl rfl rfl rfl (Pur.mv rfl) ?_
  refine Reg.known (b' := true) 19 rfl (by rfl) ?_
  refine Reg.gop rfl rfl rfl rfl rfl rfl (Does.call rfl (num_ok _ _ (by decide))) ?_
  rintro _ _ ⟨rfl, rfl⟩
  refine Reg.gpur rfl rfl rfl rfl rfl rfl (Pur.eql rfl rfl) ?_
  refine Reg.pur rfl rfl rfl rfl (Pur.pickT rfl rfl) ?_
  refine Reg.pur rfl rfl rfl rfl (Pur.mv rfl) ?_
  refine Reg.known (b' := true) 23 rfl (by rfl) ?_
  refine Reg.gop rfl rfl rfl rfl rfl rfl (Does.call rfl (num_ok _ _ (by decide))) ?_
  rintro _ _ ⟨rfl, rfl⟩
  refine Reg.gpur rfl rfl rfl rfl rfl rfl (Pur.eql rfl rfl) ?_
  refine Reg.pur rfl rfl rfl rfl (Pur.pickT rfl rfl) ?_
  refine Reg.pur rfl rfl rfl rfl (Pur.mv rfl) ?_
  refine Reg.known (b' := true) 27 rfl (by rfl) ?_
  refine Reg.gop rfl rfl rfl rfl rfl rfl (Does.call rfl (num_ok _ _ (by decide))) ?_
  rintro _ _ ⟨rfl, rfl⟩
  refine Reg.gpur rfl rfl rfl rfl rfl rfl (Pur.eql rfl rfl) ?_
  refine Reg.pur rfl rfl rfl rfl (Pur.pickT rfl rfl) ?_
  refine Reg.pur rfl rfl rfl rfl (Pur.mv rfl) ?_
  refine Reg.known (b' := true) 31 rfl (by rfl) ?_
  refine Reg.gop rfl rfl rfl rfl rfl rfl (Does.call rfl (num_ok _ _ (by decide))) ?_
  rintro _ _ ⟨rfl, rfl⟩
  refine Reg.gpur rfl rfl rfl rfl rfl rfl (Pur.eql rfl rfl) ?_
  refine Reg.pur rfl rfl rfl rfl (Pur.pickT rfl rfl) ?_
  refine Reg.pur rfl rfl rfl rfl (Pur.mv rfl) ?_
  refine Reg.known (b' := true) 35 rfl (by rfl) ?_
  refine Reg.gop rfl rfl rfl rfl rfl rfl (Does.call rfl (num_ok _ _ (by decide))) ?_
  rintro _ _ ⟨rfl, rfl⟩
  refine Reg.gpur rfl rfl rfl rfl rfl rfl (Pur.eql rfl rfl) ?_
  refine Reg.pur rfl rfl rfl rfl (Pur.pickT rfl rfl) ?_
  refine Reg.pur rfl rfl rfl rfl (Pur.mv rfl) ?_
  refine Reg.known (b' := true) 39 rfl (by rfl) ?_
  refine Reg.gop rfl rfl rfl rfl rfl rfl (Does.call rfl (num_ok _ _ (by decide))) ?_
  rintro _ _ ⟨rfl, rfl⟩
  refine Reg.gpur rfl rfl rfl rfl rfl rfl (Pur.eql rfl rfl) ?_
  refine Reg.pur rfl rfl rfl rfl (Pur.pickT rfl rfl) ?_
  refine Reg.pur rfl rfl rfl rfl (Pur.mv rfl) ?_
  refine Reg.known (b' := true) 43 rfl (by rfl) ?_
  refine Reg.gop rfl rfl rfl rfl rfl rfl (Does.call rfl (num_ok _ _ (by decide))) ?_
  rintro _ _ ⟨rfl, rfl⟩
  refine Reg.gpur rfl rfl rfl rfl rfl rfl (Pur.eql rfl rfl) ?_
  refine Reg.pur rfl rfl rfl rfl (Pur.pickT rfl rfl) ?_
  refine Reg.pur rfl rfl rfl rfl (Pur.mv rfl) ?_
  refine Reg.known (b' := true) 47 rfl (by rfl) ?_
  refine Reg.gop rfl rfl rfl rfl rfl rfl (Does.call rfl (num_ok _ _ (by decide))) ?_
  rintro _ _ ⟨rfl, rfl⟩
  refine Reg.gpur rfl rfl rfl rfl rfl rfl (Pur.eql rfl rfl) ?_
  refine Reg.pur rfl rfl rfl rfl (Pur.pickT rfl rfl) ?_
  refine Reg.pur rfl rfl rfl rfl (Pur.mv rfl) ?_
  refine Reg.known (b' := true) 51 rfl (by rfl) ?_
  refine Reg.gop rfl rfl rfl rfl rfl rfl (Does.call rfl (num_ok _ _ (by decide))) ?_
  rintro _ _ ⟨rfl, rfl⟩
  refine Reg.gpur rfl rfl rfl rfl rfl rfl (Pur.eql rfl rfl) ?_
  refine Reg.pur rfl rfl rfl rfl (Pur.pickT rfl rfl) ?_
  refine Reg.pur rfl rfl rfl rfl (Pur.asg rfl) ?_
  refine Reg.nil ?_
  refine At.ret rfl Try.func12 rfl ?_
  exact ⟨rfl, rfl⟩
theorem numbers1_ok (H : Heap) : Ret Try.prog 13 [] H (fun v H' => v = .bool true ∧ H' = H) := by
  refine Ret.of_at (N := 1) Try.call13 Try.func13 rfl rfl rfl ?_
  refine At.region rfl rfl ?_
  refine Reg.pur rfl rfl rfl rfl (Pur.asg rfl) ?_
  refine Reg.nil ?_
  refine At.region rfl rfl ?_
  refine Reg.pur rfl rfl rfl rfl (Pur.asg rfl) ?_
  refine Reg.nil ?_
  refine At.ret rfl Try.func13 rfl ?_
  exact ⟨rfl, rfl⟩
theorem numbers2_ok (H : Heap) : Ret Try.prog 14 [] H (fun v H' => v = .bool true ∧ H' = H) := by
  refine Ret.of_at (N := 1) Try.call14 Try.func14 rfl rfl rfl ?_
  refine At.region rfl rfl ?_
  refine Reg.pur rfl rfl rfl rfl (Pur.asg rfl) ?_
  refine Reg.nil ?_
  refine At.region rfl rfl ?_
  refine Reg.pur rfl rfl rfl rfl (Pur.asg rfl) ?_
  refine Reg.nil ?_
  refine At.ret rfl Try.func14 rfl ?_
  exact ⟨rfl, rfl⟩
theorem numbers3_ok (H : Heap) : Ret Try.prog 15 [] H (fun v H' => v = .bool true ∧ H' = H) := by
  refine Ret.of_at (N := 1) Try.call15 Try.func15 rfl rfl rfl ?_
  refine At.region rfl rfl ?_
  refine Reg.pur rfl rfl rfl rfl (Pur.asg rfl) ?_
  refine Reg.nil ?_
  refine At.region rfl rfl ?_
  refine Reg.pur rfl rfl rfl rfl (Pur.asg rfl) ?_
  refine Reg.nil ?_
  refine At.ret rfl Try.func15 rfl ?_
  exact ⟨rfl, rfl⟩
theorem numbers4_ok (H : Heap) : Ret Try.prog 16 [] H (fun v H' => v = .bool true ∧ H' = H) := by
  refine Ret.of_at (N := 1) Try.call16 Try.func16 rfl rfl rfl ?_
  refine At.region rfl rfl ?_
  refine Reg.pur rfl rfl rfl rfl (Pur.asg rfl) ?_
  refine Reg.nil ?_
  refine At.region rfl rfl ?_
  refine Reg.pur rfl rfl rfl rfl (Pur.asg rfl) ?_
  refine Reg.nil ?_
  refine At.ret rfl Try.func16 rfl ?_
  exact ⟨rfl, rfl⟩
theorem numbers5_ok (H : Heap) : Ret Try.prog 17 [] H (fun v H' => v = .bool true ∧ H' = H) := by
  refine Ret.of_at (N := 1) Try.call17 Try.func17 rfl rfl rfl ?_
  refine At.region rfl rfl ?_
  refine Reg.pur rfl rfl rfl rfl (Pur.asg rfl) ?_
  refine Reg.nil ?_
  refine At.region rfl rfl ?_
  refine Reg.pur rfl rfl rfl rfl (Pur.asg rfl) ?_
  refine Reg.nil ?_
  refine At.ret rfl Try.func17 rfl ?_
  exact ⟨rfl, rfl⟩
theorem law_TrammelNames (H : Heap) : Ret Try.prog 3 [] H (fun v H' => v = .bool true ∧ Ext H H') := by
  refine Ret.of_at (N := 23) Try.call3 Try.func3 rfl rfl rfl ?_
  refine At.region rfl rfl ?_
  refine Reg.pur rfl rfl rfl rfl (Pur.asg rfl) ?_
  refine Reg.nil ?_
  refine At.condF rfl rfl rfl ?_
  refine At.region rfl rfl ?_
  refine Reg.op rfl rfl rfl rfl (Does.call rfl (errors1_ok _)) ?_
  rintro _ _ ⟨rfl, rfl⟩
  refine Reg.pur rfl rfl rfl rfl (Pur.mv rfl) ?_
  refine Reg.known (b' := true) 2 rfl (by rfl) ?_
  refine Reg.gop rfl rfl rfl rfl rfl rfl (Does.call rfl (errors2_ok _)) ?_
  rintro _ _ ⟨rfl, rfl⟩
  refine Reg.pur rfl rfl rfl rfl (Pur.pickT rfl rfl) ?_
  refine Reg.pur rfl rfl rfl rfl (Pur.mv rfl) ?_
  refine Reg.known (b' := true) 5 rfl (by rfl) ?_
  refine Reg.gop rfl rfl rfl rfl rfl rfl (Does.call rfl (errors3_ok _)) ?_
  rintro _ _ ⟨rfl, rfl⟩
  refine Reg.pur rfl rfl rfl rfl (Pur.pickT rfl rfl) ?_
  refine Reg.pur rfl rfl rfl rfl (Pur.mv rfl) ?_
  refine Reg.known (b' := true) 8 rfl (by rfl) ?_
  refine Reg.gop rfl rfl rfl rfl rfl rfl (Does.call rfl (numbers1_ok _)) ?_
  rintro _ _ ⟨rfl, rfl⟩
  refine Reg.pur rfl rfl rfl rfl (Pur.pickT rfl rfl) ?_
  refine Reg.pur rfl rfl rfl rfl (Pur.mv rfl) ?_
  refine Reg.known (b' := true) 11 rfl (by rfl) ?_
  refine Reg.gop rfl rfl rfl rfl rfl rfl (Does.call rfl (numbers2_ok _)) ?_
  rintro _ _ ⟨rfl, rfl⟩
  refine Reg.pur rfl rfl rfl rfl (Pur.pickT rfl rfl) ?_
  refine Reg.pur rfl rfl rfl rfl (Pur.mv rfl) ?_
  refine Reg.known (b' := true) 14 rfl (by rfl) ?_
  refine Reg.gop rfl rfl rfl rfl rfl rfl (Does.call rfl (numbers3_ok _)) ?_
  rintro _ _ ⟨rfl, rfl⟩
  refine Reg.pur rfl rfl rfl rfl (Pur.pickT rfl rfl) ?_
  refine Reg.pur rfl rfl rfl rfl (Pur.mv rfl) ?_
  refine Reg.known (b' := true) 17 rfl (by rfl) ?_
  refine Reg.gop rfl rfl rfl rfl rfl rfl (Does.call rfl (numbers4_ok _)) ?_
  rintro _ _ ⟨rfl, rfl⟩
  refine Reg.pur rfl rfl rfl rfl (Pur.pickT rfl rfl) ?_
  refine Reg.pur rfl rfl rfl rfl (Pur.mv rfl) ?_
  refine Reg.known (b' := true) 20 rfl (by rfl) ?_
  refine Reg.gop rfl rfl rfl rfl rfl rfl (Does.call rfl (numbers5_ok _)) ?_
  rintro _ _ ⟨rfl, rfl⟩
  refine Reg.pur rfl rfl rfl rfl (Pur.pickT rfl rfl) ?_
  refine Reg.pur rfl rfl rfl rfl (Pur.asg rfl) ?_
  refine Reg.nil ?_
  refine At.ret rfl Try.func3 rfl ?_
  exact ⟨rfl, Ext.refl _⟩

open Go.ChangeShapes Go.WideShapes Go.ChangeAt Go.RowKit in
theorem open_TrammelNames {H : Type} {enc : TypeId × Value → H} {W : World} {base : Nat} {args : Array Value} {ds gs : List (DataW H)} {before : List MemPlace}
    (hval : ∀ (j : Nat) t v, Try.f3.params[j]? = some t → args[j]? = some v → Value.okWide Try.prog W .any base t v)
    (hW : DataW.Whole enc Try.prog Try.f3.params.toList [] false W args.toList ds gs before)
    (hsz : (DataW.weightsEach Try.prog (Try.f3.params.toList ++ Rows.trammelNamesSpec.plain.varTypes Try.prog) (ds ++ gs)).all (· ≤ reachBytes) = true) :
    Ret Try.prog 3 args.toList W.heap (fun v H' => v = .bool true ∧ Ext W.heap H') := by
  obtain ⟨p, q, hA, _⟩ := hW
  obtain ⟨rfl, _, _⟩ := trodAll_none hA
  exact law_TrammelNames W.heap
namespace LawTrammelNames
open Go.ChangeShapes Go.WideShapes Go.ChangeAt Go.RowKit
theorem own : ownKnob Try.prog.godebug = none := by kernel_rfl
theorem laid : laidOutB Try.prog = true := by kernel_rfl
theorem pars : (Try.f3.params.toList.all fun t => Try.prog.readableRec t && decide (t < Try.prog.types.size)) = true := by kernel_rfl
set_option maxRecDepth 100000 in
theorem lifted (os : Os) (started : os.Started) (H : Type) (enc : TypeId × Value → H) :
    ReturnsInHanded {} Try.checked os 3 .any (Rows.trammelNamesSpec.pre6 enc Try.prog Try.f3 Rows.trammelNamesRow.domain false) (Rows.trammelNamesSpec.post enc Try.prog Try.f3 false true false false) := by
  refine returnsInHanded_of_change_sized (C := Try.checked) own started (by kernel_rfl) Try.func3
    (ChangeSpec.witness6 (enc := enc) (C := Try.checked) false ⟨#[], #[], []⟩ 8 (by kernel_rfl) (by kernel_rfl) (by kernel_rfl) (by kernel_rfl)) ?_
  intro W base args ds gs before hval hW hcnd hsz _
  refine law_calls (tb := 4) laid (fun t ht => ?_) rfl Try.underlying4 rfl ?_ hW (open_TrammelNames hval hW hsz)
  · have h := List.all_eq_true.1 pars t ht
    simp only [Bool.and_eq_true, decide_eq_true_eq] at h
    exact h
  · obtain ⟨p, q, hA, hV, _⟩ := hW
    have hn := trodAll_length hA
    match ds, hn with
    | [], _ => rfl
theorem over : Rows.trammelNamesRow.holds Try.pinned (OpenSpec.ofChange Rows.trammelNamesSpec) :=
  OpenClaim.holds_of_wide 3 Try.f3 rfl rfl rfl rfl rfl rfl rfl ⟨rfl, rfl, rfl, rfl, rfl⟩ rfl rfl rfl rfl rfl (by kernel_rfl) Try.func3 (by kernel_rfl)
    (of_decide_eq_true (by kernel_rfl)) (by unfold Func.isWrapper; first | (rw [if_pos (by decide +kernel)]; kernel_rfl) | (rw [if_neg (by decide +kernel)]; exact ⟨rfl, rfl⟩))
    (fun os started H enc _ => lifted os started H enc)
end LawTrammelNames
/-- The row. -/
theorem trammelNames_holds : Rows.TrammelNamesSaid := LawTrammelNames.over
#print axioms trammelNames_holds
end Go.Proofs.Ytkniihjfcagdbaa
