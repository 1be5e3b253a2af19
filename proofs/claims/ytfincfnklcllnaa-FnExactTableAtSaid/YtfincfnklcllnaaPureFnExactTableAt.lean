/- The program's TableAt and the reference's: the value at the place that the bits tell, or -1. Conditions: lengths fit. -/
import Derived.Test.YtfincfnklcllnaaAt
import Derived.Test.YtfincfnklcllnaaGlawsFnExactTableAt
import Derived.Test.YtfincfnklcllnaaGlawstoTable
set_option linter.unusedSimpArgs false
set_option linter.unusedVariables false
namespace Go.Proofs.Ytfincfnklcllnaa.Pure
open Go.RowKit Go.Proofs.Ytfincfnklcllnaa.G Go.Proofs.YtfincfnklcllnaaW.PrintWords Go.Proofs.YtfincfnklcllnaaW.PrintLast Go.Proofs.YtfincfnklcllnaaW.PrintMore

theorem FnExactTableAt_pure : ∀ (a0_0 : Int) (a0_1 : ByteArray) (l1 : List Int), ((Lit.int .i64 a0_0).wf = true ∧ a0_1.size ≤ maxLen) → (l1.length ≤ maxLen ∧ ∀ x_ ∈ l1, (Lit.int .i64 x_).wf = true) → ∃ k, laws_FnExactTableAt.f k a0_0 a0_1 l1 = some true := by
  intro N s l ⟨_, hs⟩ _
  by_cases hl : (l.length : Int) > 1048576
  · exact ⟨0, by unfold laws_FnExactTableAt.f; rw [if_pos hl]⟩
  obtain ⟨k, hk, hk2⟩ : ∃ k, s.size + 40 < k ∧ l.length < k := ⟨s.size + l.length + 41, by omega, by omega⟩
  refine ⟨k, ?_⟩
  unfold laws_FnExactTableAt.f
  rw [if_neg hl, szTable_eq N s hs, Option.bind_some]
  by_cases h : (s.size : Int) > 1048576
  · rw [if_pos h, if_pos (by decide)]
  · rw [if_neg h, if_neg (by omega)]
    simp only [laws_toTable.f, Option.bind_some, toIntS_eq l (by omega) k hk2, spec_TableAt_eq N s l (by omega) k hk, impl_TableAt_eq N s l (by omega) k hk, eqIntS_self l (by omega) k hk2, if_true]
end Go.Proofs.Ytfincfnklcllnaa.Pure
