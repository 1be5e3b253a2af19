/- The program's Turned and the reference's: both turn each flag; copies and marks keep apart. Conditions: a list's length fits. -/
import Derived.Test.YtfincfnklcllnaaHelp
import Derived.Test.YtfincfnklcllnaaGimplTurned
import Derived.Test.YtfincfnklcllnaaGlawsFnExactTurned
import Derived.Test.YtfincfnklcllnaaGspecTurned
namespace Go.Proofs.Ytfincfnklcllnaa.Pure
open Go.RowKit Go.Proofs.Ytfincfnklcllnaa.G Go.Proofs.YtfincfnklcllnaaW.PrintWords Go.Proofs.YtfincfnklcllnaaW.PrintLast Go.Proofs.YtfincfnklcllnaaW.PrintMore

theorem spec_Turned_eq (l : List Bool) (hl : l.length ≤ 1048576) : ∀ k, l.length < k → spec_Turned.f k l = some (l.map not) := by
  intro k hk
  unfold spec_Turned.f
  have h := rounds (fun k i => spec_Turned.l0 k l ((l.take i).map not) (i : Int)) l.length (l.map not) ?_ ?_ k hk
  · simpa using h
  · intro k i hi
    simp only [spec_Turned.l0]
    rw [if_pos (by omega), if_pos (by omega), if_pos (by simp; omega), rdOf_nat, w64s i (by omega), take_succ_getD l i false hi, List.map_append]
    rfl
  · intro k
    simp only [spec_Turned.l0]
    rw [if_neg (by omega), List.take_length]
theorem impl_Turned_eq (l : List Bool) (hl : l.length ≤ 1048576) : ∀ k, l.length < k → impl_Turned.f k l = some (l.map not) := by
  intro k hk
  unfold impl_Turned.f
  have h := rounds (fun k i => impl_Turned.l0 k ((l.take i).map not) l (l.length : Int) (i : Int)) l.length (l.map not) ?_ ?_ k hk
  · simpa using h
  · intro k i hi
    simp only [impl_Turned.l0]
    rw [if_pos (by omega), if_pos (by omega), if_pos (by omega), if_pos (by simp; omega), rdOf_nat, w64s i (by omega), take_succ_getD l i false hi, List.map_append]
    rfl
  · intro k
    simp only [impl_Turned.l0]
    rw [if_neg (by omega), List.take_length]
theorem FnExactTurned_pure : ∀ (l0 : List Bool), (l0.length ≤ maxLen ∧ ∀ x_ ∈ l0, True) → ∃ k, laws_FnExactTurned.f k l0 = some true := by
  intro l _
  by_cases h : (l.length : Int) > 1048576
  · exact ⟨0, by unfold laws_FnExactTurned.f; rw [if_pos h]⟩
  · have hl : l.length ≤ 1048576 := by omega
    obtain ⟨k, hk⟩ : ∃ k, l.length < k := ⟨l.length + 1, by omega⟩
    refine ⟨k + 1, ?_⟩
    have hm : (l.map not).length = l.length := by simp
    have mk := markBoolS_eq l (by omega)
    have mm := markBoolS_eq (l.map not) (by omega)
    rw [hm] at mm
    have hn : ¬ (((1 + l.length : Nat) : Int) < 0) := by omega
    unfold laws_FnExactTurned.f
    rw [if_neg h]
    simp only [toBoolS_eq l (by omega) (k + 1) (by omega), toBoolS_eq l (by omega) k (by omega), spec_Turned_eq l hl (k + 1) (by omega), impl_Turned_eq l hl (k + 1) (by omega), impl_Turned_eq l hl k (by omega), eqBoolS_self (l.map not) (by omega) (k + 1) (by omega),
      eqBoolS_self (l.map not) (by omega) k (by omega), eqBoolS_self l (by omega) (k + 1) (by omega), mk (k + 1) (by omega), mm k (by omega), heldBoolS_eq l.length (by omega) k (by omega), Option.bind_some, laws_FnExactTurned.j0, if_true, Bool.not_true, Bool.false_eq_true, if_false, if_neg hn]
end Go.Proofs.Ytfincfnklcllnaa.Pure
