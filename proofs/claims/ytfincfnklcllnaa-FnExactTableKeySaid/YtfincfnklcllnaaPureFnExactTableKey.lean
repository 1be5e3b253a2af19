/- The program's TableKey and the reference's: the number of bits, a colon, the values; the empty text for what is no table. Conditions: a string's length fits. -/
import Derived.Test.YtfincfnklcllnaaKey
import Derived.Test.YtfincfnklcllnaaGlawsFnExactTableKey
import Derived.Test.YtfincfnklcllnaaGlawstoTable
set_option linter.unusedSimpArgs false
set_option linter.unusedVariables false
namespace Go.Proofs.Ytfincfnklcllnaa.Pure
open Go.RowKit Go.Proofs.Ytfincfnklcllnaa.G Go.Proofs.YtfincfnklcllnaaW.PrintWords Go.Proofs.YtfincfnklcllnaaW.PrintLast Go.Proofs.YtfincfnklcllnaaW.PrintMore

theorem FnExactTableKey_pure : ∀ (a0_0 : Int) (a0_1 : ByteArray), ((Lit.int .i64 a0_0).wf = true ∧ a0_1.size ≤ maxLen) → ∃ k, laws_FnExactTableKey.f k a0_0 a0_1 = some true := by
  intro N s ⟨_, hs⟩
  obtain ⟨k, hk⟩ : ∃ k, s.size + 30 < k := ⟨s.size + 31, by omega⟩
  refine ⟨k, ?_⟩
  unfold laws_FnExactTableKey.f
  rw [szTable_eq N s hs, Option.bind_some]
  by_cases h : (s.size : Int) > 1048576
  · rw [if_pos h, if_pos (by decide)]
  · rw [if_neg h, if_neg (by omega)]
    simp only [laws_toTable.f, Option.bind_some, spec_TableKey_eq N s (by omega) k hk, impl_TableKey_eq N s (by omega) k hk, if_true]
end Go.Proofs.Ytfincfnklcllnaa.Pure
