/- The program's Owner and the reference's: both tell for each flag whether it belongs to who wants the verdict. Conditions: a list's length and a number fit. -/
import Derived.Test.YtfincfnklcllnaaTab
import Derived.Test.YtfincfnklcllnaaGimplOwner
import Derived.Test.YtfincfnklcllnaaGlawsFnExactOwner
import Derived.Test.YtfincfnklcllnaaGspecOwner
import Derived.Test.YtfincfnklcllnaaGspecl01In
set_option linter.unusedSimpArgs false
set_option linter.unusedVariables false
namespace Go.Proofs.Ytfincfnklcllnaa.Pure
open Go.RowKit Go.Proofs.Ytfincfnklcllnaa.G Go.Proofs.YtfincfnklcllnaaW.PrintWords Go.Proofs.YtfincfnklcllnaaW.PrintLast Go.Proofs.YtfincfnklcllnaaW.PrintMore

def owner (v : Int) (l : List Bool) : List Bool := if v = 0 ∨ v = 1 then l.map (fun a => a == (v == 0)) else []
theorem owner_le (v : Int) (l : List Bool) : (owner v l).length ≤ l.length := by
  unfold owner
  split <;> simp
theorem spec_Owner_eq (v : Int) (l : List Bool) (hl : l.length ≤ 1048576) : ∀ k, l.length < k → spec_Owner.f k l v = some (owner v l) := by
  intro k hk
  unfold spec_Owner.f
  by_cases hv : v = 0 ∨ v = 1
  · have h := rounds (fun k i => spec_Owner.l0 k l v ((l.take i).map (fun a => a == (v == 0))) (i : Int)) l.length (l.map (fun a => a == (v == 0))) ?_ ?_ k hk
    · rw [owner, if_pos hv]
      simpa using h
    · intro k i hi
      simp only [spec_Owner.l0, spec_l01In.f]
      rw [if_pos (by omega), if_pos (by omega), decide_eq_true (show v ≤ 1 by omega), Option.bind_some, if_pos rfl, if_pos (by omega), if_pos (by simp; omega), rdOf_nat, w64s i (by omega), take_succ_getD l i false hi, List.map_append]
      rfl
    · intro k
      simp only [spec_Owner.l0]
      rw [if_neg (by omega), List.take_length]
  · obtain ⟨k, rfl⟩ : ∃ m, k = m + 1 := ⟨k - 1, by omega⟩
    simp only [spec_Owner.l0, spec_l01In.f, owner]
    rw [if_neg hv]
    by_cases h0 : (0 : Int) < (l.length : Int)
    · rw [if_pos h0]
      by_cases h1 : v ≥ 0
      · rw [if_pos h1, decide_eq_false (by omega)]
        simp
      · rw [if_neg h1]
        simp
    · rw [if_neg h0]
theorem impl_Owner_eq (v : Int) (l : List Bool) (hl : l.length ≤ 1048576) : ∀ k, l.length + 1 < k → impl_Owner.f k l v = some (owner v l) := by
  intro k hk
  obtain ⟨k, rfl⟩ : ∃ m, k = m + 1 := ⟨k - 1, by omega⟩
  have loop : v = 0 ∨ v = 1 → impl_Owner.l0 k v [] l (l.length : Int) 0 = some (owner v l) := by
    intro hv
    have h := rounds (fun k i => impl_Owner.l0 k v ((l.take i).map (fun a => a == (v == 0))) l (l.length : Int) (i : Int)) l.length (l.map (fun a => a == (v == 0))) ?_ ?_ k (by omega)
    · rw [owner, if_pos hv]
      simpa using h
    · intro k i hi
      simp only [impl_Owner.l0]
      rw [if_pos (by omega), if_pos (by omega), if_pos (by omega), if_pos (by simp; omega), rdOf_nat, w64s i (by omega), take_succ_getD l i false hi, List.map_append]
      rfl
    · intro k
      simp only [impl_Owner.l0]
      rw [if_neg (by omega), List.take_length]
  unfold impl_Owner.f
  simp only [Option.bind_some, impl_Owner.j0]
  by_cases h0 : v = 0
  · rw [if_pos h0, if_neg (by decide)]
    exact loop (.inl h0)
  · rw [if_neg h0]
    by_cases h1 : v = 1
    · rw [if_neg (by simp [h1])]
      exact loop (.inr h1)
    · rw [if_pos (by simpa using h1), owner, if_neg (by omega)]
theorem FnExactOwner_pure : ∀ (l0 : List Bool) (a1 : Int), (l0.length ≤ maxLen ∧ ∀ x_ ∈ l0, True) → (Lit.int .i64 a1).wf = true → ∃ k, laws_FnExactOwner.f k l0 a1 = some true := by
  intro l v _ _
  by_cases h : (l.length : Int) > 1048576
  · exact ⟨0, by unfold laws_FnExactOwner.f; rw [if_pos h]⟩
  · have hl : l.length ≤ 1048576 := by omega
    obtain ⟨k, hk⟩ : ∃ k, l.length + 1 < k := ⟨l.length + 2, by omega⟩
    refine ⟨k + 1, ?_⟩
    have hm := owner_le v l
    have mk := markBoolS_eq l (by omega)
    have mm := markBoolS_eq (owner v l) (by omega)
    have hn : ¬ (((1 + l.length : Nat) : Int) < 0) := by omega
    have hn2 : ¬ (((1 + (owner v l).length : Nat) : Int) < 0) := by omega
    unfold laws_FnExactOwner.f
    rw [if_neg h]
    simp only [toBoolS_eq l (by omega) (k + 1) (by omega), toBoolS_eq l (by omega) k (by omega), spec_Owner_eq v l hl (k + 1) (by omega), impl_Owner_eq v l hl (k + 1) (by omega), impl_Owner_eq v l hl k (by omega), eqBoolS_self (owner v l) (by omega) (k + 1) (by omega),
      eqBoolS_self (owner v l) (by omega) k (by omega), eqBoolS_self l (by omega) (k + 1) (by omega), mk (k + 1) (by omega), mm k (by omega), heldBoolS_eq (owner v l).length (by omega) k (by omega), Option.bind_some, laws_FnExactOwner.j0, if_true, Bool.not_true, Bool.false_eq_true, if_false, if_neg hn, if_neg hn2]
end Go.Proofs.Ytfincfnklcllnaa.Pure
