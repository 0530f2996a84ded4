/-
  Types written over.
-/
import Derived.Test.YtlfillhffpiffaaSubG
namespace Go.Proofs.Ytlfillhffpiffaa
set_option linter.unusedSimpArgs false
set_option linter.unusedVariables false
set_option maxRecDepth 8000
open Go Go.Fx Go.Proofs
namespace FactsSubH
theorem es23 : esz Try.prog 23 = some 9 := by kernel_rfl
theorem fo25_0 : foff Try.prog 25 0 = some 0 := by kernel_rfl
theorem fo47_1 : foff Try.prog 47 1 = some 1 := by kernel_rfl
theorem isl23 : isSl Try.prog 23 = true := by kernel_rfl
theorem sc23 : sc Try.prog 23 = true := by kernel_rfl
theorem sc3 : sc Try.prog 3 = true := by kernel_rfl
end FactsSubH
open FactsSubH

theorem spoilN_ok {A : Option Addr} {cap g : Nat} {L : List (List Int)} (hL : Nine L) {H : Heap} {c0 : List Value} (hm : L.length ≤ 9223372036854775807) (hI : L.length = 0 ∨ (A = some ⟨g, 0, none⟩ ∧ Own H g c0 ∧ c0.take (L.length * 9) = L.flatMap Is)) :
    Ret Try.prog 62 [.slice A L.length cap] H (fun v H' => (L.length = 0 ∧ H' = H) ∨ But (· = g) H H') := by
  refine Ret.of_at (N := 19) Try.call62 Try.func62 rfl rfl rfl ?_
  refine At.region rfl rfl ?_
  refine Reg.pur rfl rfl rfl rfl (Pur.asg rfl) ?_
  refine Reg.nil ?_
  refine At.loop (σ := Nat × List (List Int) × List Value) (fun s => [(2, I s.1), (0, .slice A L.length cap)]) (fun s H' => s.1 ≤ L.length ∧ s.2.1.length = L.length ∧ Nine s.2.1 ∧ ((L.length = 0 ∧ H' = H) ∨ (A = some ⟨g, 0, none⟩ ∧ Own H' g s.2.2 ∧ s.2.2.take (L.length * 9) = s.2.1.flatMap Is ∧ But (· = g) H H'))) (fun s => L.length - s.1) (0, L, c0) rfl ⟨rfl, rfl, trivial⟩ ⟨by omega, rfl, hL, hI.imp (fun h => ⟨h, rfl⟩) (fun ⟨h1, h2, h3⟩ => ⟨h1, h2, h3, But.refl _ _⟩)⟩ ?_
  clear hI
  rintro ⟨i, M, c⟩ H2 ⟨hi, hl, hM, hI⟩ ih
  dsimp only at hi hl hM hI ⊢
  refine At.region rfl rfl ?_
  refine Reg.pur rfl rfl rfl rfl (Pur.mv rfl) ?_
  refine Reg.pur rfl rfl rfl rfl (Pur.mv rfl) ?_
  refine Reg.pur rfl rfl rfl rfl (Pur.lenS isl23 rfl) ?_
  refine Reg.pur rfl rfl rfl rfl (Pur.lss rfl rfl) ?_
  refine Reg.nil ?_
  refine At.cond rfl rfl (fun hb1 => ?_) (fun hb1 => ?_)
  · simp only [decide_eq_true_eq] at hb1
    have hlt : i < L.length := by omega
    obtain ⟨rfl, hO, htk, hB⟩ := hI.resolve_left (by omega)
    have r1 := rd htk hM hl hlt (j := 1) (by omega)
    have hcl := len_of htk hM hl
    refine At.region rfl rfl ?_
    refine Reg.pur rfl rfl rfl rfl (Pur.mv rfl) ?_
    refine Reg.pur rfl rfl rfl rfl (Pur.mv rfl) ?_
    refine Reg.pur rfl rfl rfl rfl (Pur.mv rfl) ?_
    refine Reg.pur rfl rfl rfl rfl (Pur.mv rfl) ?_
    refine Reg.pur rfl rfl rfl rfl (Pur.idx _ es23 rfl rfl (by omega) hb1) ?_
    refine Reg.pur rfl rfl rfl rfl (Pur.fld _ fo47_1 rfl) ?_
    refine Reg.lod rfl rfl rfl rfl (Lod.ld sc3 rfl hO.blk r1) ?_
    refine Reg.pur rfl rfl rfl rfl (Pur.xor rfl rfl) ?_
    refine Reg.pur rfl rfl rfl rfl (Pur.idx _ es23 rfl rfl (by omega) hb1) ?_
    refine Reg.pur rfl rfl rfl rfl (Pur.fld _ fo47_1 rfl) ?_
    refine Reg.op0 rfl rfl rfl (Does.st sc3 rfl rfl rfl hO (by omega)) ?_
    rintro _ H3 hu3
    refine Reg.nil ?_
    refine At.region rfl rfl ?_
    refine Reg.pur rfl rfl rfl rfl (Pur.mv rfl) ?_
    first | refine Reg.pur rfl rfl rfl rfl (Pur.add64 rfl rfl (by omega)) ?_ | refine Reg.pur rfl rfl rfl rfl (Pur.add64 rfl rfl (by assumption)) ?_ | refine Reg.pur rfl rfl rfl rfl (Pur.add rfl rfl) ?_
    refine Reg.pur rfl rfl rfl rfl (Pur.asg rfl) ?_
    refine Reg.nil ?_
    exact At.via (ih (i + 1, _, _) H3 ⟨by omega, by simp only [List.length_set]; exact hl, nine_set hM i 1 _, .inr ⟨rfl, hu3.own, wr htk hM hl hlt (j := 1) (by omega) _, hB.trans hu3.but⟩⟩ (by simp only; omega)) ⟨rfl, rfl, trivial⟩
  · refine At.fall rfl Try.func62 rfl ?_
    exact hI.imp id (fun h => h.2.2.2)

theorem spoilT_ok {A : Option Addr} {cap g : Nat} {L : List (List Int)} (hL : Nine L) {H : Heap} {c0 : List Value} (hm : L.length ≤ 9223372036854775807) (hI : L.length = 0 ∨ (A = some ⟨g, 0, none⟩ ∧ Own H g c0 ∧ c0.take (L.length * 9) = L.flatMap Is)) :
    Ret Try.prog 26 [Ty A L.length cap] H (fun v H' => (L.length = 0 ∧ Ext H H') ∨ But (· = g) H H') := by
  refine Ret.of_at (N := 5) Try.call26 Try.func26 rfl rfl rfl ?_
  refine At.region rfl rfl ?_
  refine Reg.op rfl rfl rfl rfl (Does.box rfl rfl) ?_
  rintro _ H1 ⟨rfl, hn1⟩
  refine Reg.nil ?_
  refine At.region rfl rfl ?_
  refine Reg.pur rfl rfl rfl rfl (Pur.fld _ fo25_0 rfl) ?_
  refine Reg.lod rfl rfl rfl rfl (Lod.ld sc23 rfl hn1.own.blk rfl) ?_
  refine Reg.op rfl rfl rfl rfl (Does.call rfl (spoilN_ok (g := g) (c0 := c0) hL hm (hI.imp id (fun ⟨h1, h2, h3⟩ ↦ ⟨h1, h2.ext hn1.ext, h3⟩)))) ?_
  rintro _ H2 hr
  refine Reg.nil ?_
  refine At.fall rfl Try.func26 rfl ?_
  exact hr.imp (fun ⟨h1, h2⟩ => ⟨h1, h2 ▸ hn1.ext⟩) (fun h => hn1.ext.but.trans h)
end Go.Proofs.Ytlfillhffpiffaa
