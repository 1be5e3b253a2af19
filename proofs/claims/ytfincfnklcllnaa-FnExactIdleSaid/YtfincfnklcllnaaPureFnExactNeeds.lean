/- The program's Needs and the reference's: the bits on which a table depends. Conditions: a string's length fits. -/
import Derived.Test.YtfincfnklcllnaaNeeds
import Derived.Test.YtfincfnklcllnaaGlawsFnExactNeeds
import Derived.Test.YtfincfnklcllnaaGlawstoTable
set_option linter.unusedSimpArgs false
set_option linter.unusedVariables false
namespace Go.Proofs.Ytfincfnklcllnaa.Pure
open Go.RowKit Go.Proofs.Ytfincfnklcllnaa.G Go.Proofs.YtfincfnklcllnaaW.PrintWords Go.Proofs.YtfincfnklcllnaaW.PrintLast Go.Proofs.YtfincfnklcllnaaW.PrintMore

def needsOf (want : Bool) (N : Int) (s : ByteArray) : List Int := if tok N s then needsTo want N.toNat (s.data.toList.map fun c => c == 49) N.toNat else []
theorem needsOf_len (want : Bool) (N : Int) (s : ByteArray) : (needsOf want N s).length ≤ 12 := by
  unfold needsOf
  cases ht : tok N s with
  | false => simp
  | true =>
    obtain ⟨n, l, rfl, hn, hl, rfl⟩ := tok_form ht
    rw [if_pos rfl, Int.toNat_natCast]
    exact Nat.le_trans (needsTo_len _ _ _ _) hn
theorem FnExactNeeds_pure : ∀ (a0_0 : Int) (a0_1 : ByteArray), ((Lit.int .i64 a0_0).wf = true ∧ a0_1.size ≤ maxLen) → ∃ k, laws_FnExactNeeds.f k a0_0 a0_1 = some true := by
  intro N s ⟨_, hs⟩
  obtain ⟨k, hk⟩ : ∃ k, s.size + 50000 < k := ⟨s.size + 50001, by omega⟩
  refine ⟨k, ?_⟩
  unfold laws_FnExactNeeds.f
  rw [szTable_eq N s hs, Option.bind_some]
  by_cases h : (s.size : Int) > 1048576
  · rw [if_pos h, if_pos (by decide)]
  · rw [if_neg h, if_neg (by omega)]
    have e1 := spec_Needs_eq N s (by omega) k hk
    have e2 := impl_Needs_eq N s (by omega) k hk
    rw [show (if tok N s then needsTo true N.toNat (s.data.toList.map fun c => c == 49) N.toNat else []) = needsOf true N s from rfl] at e1 e2
    have hl := needsOf_len true N s
    generalize needsOf true N s = x at e1 e2 hl
    have hn : ¬ (((1 + x.length : Nat) : Int) < 0) := by omega
    simp only [laws_toTable.f, Option.bind_some, e1, e2, eqIntS_self x (by omega) k (by omega), markIntS_eq x (by omega) k (by omega), heldIntS_eq x.length (by omega) k (by omega), if_true, if_neg hn]
end Go.Proofs.Ytfincfnklcllnaa.Pure
