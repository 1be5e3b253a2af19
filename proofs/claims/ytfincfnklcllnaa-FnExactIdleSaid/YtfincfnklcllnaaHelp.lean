/- What the statements' own helpers answer (copies, comparisons, marks), as plain equations. Conditions: each lemma's own hypotheses. -/
import Derived.Test.YtfincfnklcllnaaBase
import Derived.Test.YtfincfnklcllnaaGlawseqBoolS
import Derived.Test.YtfincfnklcllnaaGlawseqIntS
import Derived.Test.YtfincfnklcllnaaGlawsheldBoolS
import Derived.Test.YtfincfnklcllnaaGlawsheldIntS
import Derived.Test.YtfincfnklcllnaaGlawsmarkBoolS
import Derived.Test.YtfincfnklcllnaaGlawsmarkIntS
import Derived.Test.YtfincfnklcllnaaGlawsszTable
import Derived.Test.YtfincfnklcllnaaGlawstoBoolS
import Derived.Test.YtfincfnklcllnaaGlawstoIntS
set_option linter.unusedSimpArgs false
set_option linter.unusedVariables false
namespace Go.Proofs.Ytfincfnklcllnaa.Pure
open Go.RowKit Go.Proofs.Ytfincfnklcllnaa.G Go.Proofs.YtfincfnklcllnaaW.PrintWords Go.Proofs.YtfincfnklcllnaaW.PrintLast Go.Proofs.YtfincfnklcllnaaW.PrintMore

theorem eqBoolS_self (l : List Bool) (hl : l.length ≤ 1099511627776) : ∀ k, l.length < k → laws_eqBoolS.f k l l = some true := by
  intro k hk
  unfold laws_eqBoolS.f
  rw [if_pos rfl]
  refine rounds (fun k i => laws_eqBoolS.l0 k l l (i : Int)) l.length true ?_ ?_ k hk
  · intro k i hi
    simp only [laws_eqBoolS.l0]
    rw [if_pos (by omega), if_pos (by omega), if_pos (by omega), if_neg (by simp), w64s i (by omega)]
  · intro k
    simp only [laws_eqBoolS.l0]
    rw [if_neg (by omega)]
theorem eqIntS_self (l : List Int) (hl : l.length ≤ 1099511627776) : ∀ k, l.length < k → laws_eqIntS.f k l l = some true := by
  intro k hk
  unfold laws_eqIntS.f
  rw [if_pos rfl]
  refine rounds (fun k i => laws_eqIntS.l0 k l l (i : Int)) l.length true ?_ ?_ k hk
  · intro k i hi
    simp only [laws_eqIntS.l0]
    rw [if_pos (by omega), if_pos (by omega), if_pos (by omega), if_pos (by simp), w64s i (by omega)]
  · intro k
    simp only [laws_eqIntS.l0]
    rw [if_neg (by omega)]
theorem toBoolS_eq (l : List Bool) (hl : l.length ≤ 1099511627776) : ∀ k, l.length < k → laws_toBoolS.f k l = some l := by
  intro k hk
  unfold laws_toBoolS.f
  rw [if_pos (by omega), if_pos (by omega), Int.toNat_natCast]
  have h := rounds (fun k i => laws_toBoolS.l0 k l (l.take i ++ (List.replicate l.length false).drop i) (i : Int)) l.length l ?_ ?_ k hk
  · simpa using h
  · intro k i hi
    simp only [laws_toBoolS.l0]
    rw [if_pos (by omega), if_pos (by omega), if_pos (by simp; omega), rdOf_nat, w64s i (by omega), Int.toNat_natCast, getD_lt l i false hi, set_front l (List.replicate l.length false) i l[i] (by simp) (by simpa using hi) (List.getElem?_eq_getElem hi)]
  · intro k
    simp only [laws_toBoolS.l0]
    rw [if_neg (by omega)]
    simp
theorem toIntS_eq (l : List Int) (hl : l.length ≤ 1099511627776) : ∀ k, l.length < k → laws_toIntS.f k l = some l := by
  intro k hk
  unfold laws_toIntS.f
  rw [if_pos (by omega), if_pos (by omega), Int.toNat_natCast]
  have h := rounds (fun k i => laws_toIntS.l0 k l (l.take i ++ (List.replicate l.length 0).drop i) (i : Int)) l.length l ?_ ?_ k hk
  · simpa using h
  · intro k i hi
    simp only [laws_toIntS.l0]
    rw [if_pos (by omega), if_pos (by omega), if_pos (by simp; omega), rd_nat, w64s i (by omega), Int.toNat_natCast, getD_lt l i 0 hi, set_front l (List.replicate l.length 0) i l[i] (by simp) (by simpa using hi) (List.getElem?_eq_getElem hi)]
  · intro k
    simp only [laws_toIntS.l0]
    rw [if_neg (by omega)]
    simp
def markB (n : Nat) : List Bool := (List.range n).map fun i => Int.tmod ((1 + i : Nat) : Int) 3 == 0
theorem markBoolS_eq (l : List Bool) (hl : l.length ≤ 1099511627776) : ∀ k, l.length < k → laws_markBoolS.f k l 1 = some (((1 + l.length : Nat) : Int), markB l.length) := by
  intro k hk
  unfold laws_markBoolS.f
  have h := rounds (fun k i => laws_markBoolS.l0 k ((markB l.length).take i ++ l.drop i) ((1 + i : Nat) : Int) (i : Int)) l.length (((1 + l.length : Nat) : Int), markB l.length) ?_ ?_ k hk
  · simpa using h
  · intro k i hi
    simp only [laws_markBoolS.l0]
    rw [if_pos (by simp [markB]; omega), if_pos (by omega), w64s i (by omega), w64s (1 + i) (by omega), Int.toNat_natCast, set_front (markB l.length) l i _ (by simp [markB]) hi (by simp [markB, hi])]
    rfl
  · intro k
    simp only [laws_markBoolS.l0]
    rw [if_neg (by simp [markB]), List.take_of_length_le (by simp [markB])]
    simp
theorem heldBoolS_eq (n : Nat) (hn : n ≤ 1099511627776) : ∀ k, n < k → laws_heldBoolS.f k (markB n) 1 = some ((1 + n : Nat) : Int) := by
  intro k hk
  unfold laws_heldBoolS.f
  refine rounds (fun k i => laws_heldBoolS.l0 k (markB n) ((1 + i : Nat) : Int) (i : Int)) n _ ?_ ?_ k hk
  · intro k i hi
    simp only [laws_heldBoolS.l0]
    rw [if_pos (by simp [markB]; omega), if_pos (by omega), rdOf_nat, w64s i (by omega), w64s (1 + i) (by omega), if_neg (by simp [markB, hi])]
    rfl
  · intro k
    simp only [laws_heldBoolS.l0]
    rw [if_neg (by simp [markB])]
def markI (n : Nat) : List Int := (List.range n).map fun i => ((1 + i : Nat) : Int)
theorem markIntS_eq (l : List Int) (hl : l.length ≤ 1099511627776) : ∀ k, l.length < k → laws_markIntS.f k l 1 = some (((1 + l.length : Nat) : Int), markI l.length) := by
  intro k hk
  unfold laws_markIntS.f
  have h := rounds (fun k i => laws_markIntS.l0 k ((markI l.length).take i ++ l.drop i) ((1 + i : Nat) : Int) (i : Int)) l.length (((1 + l.length : Nat) : Int), markI l.length) ?_ ?_ k hk
  · simpa using h
  · intro k i hi
    simp only [laws_markIntS.l0]
    rw [if_pos (by simp [markI]; omega), if_pos (by omega), w64s i (by omega), w64s (1 + i) (by omega), Int.toNat_natCast, set_front (markI l.length) l i _ (by simp [markI]) hi (by simp [markI, hi])]
    rfl
  · intro k
    simp only [laws_markIntS.l0]
    rw [if_neg (by simp [markI]), List.take_of_length_le (by simp [markI])]
    simp
theorem heldIntS_eq (n : Nat) (hn : n ≤ 1099511627776) : ∀ k, n < k → laws_heldIntS.f k (markI n) 1 = some ((1 + n : Nat) : Int) := by
  intro k hk
  unfold laws_heldIntS.f
  refine rounds (fun k i => laws_heldIntS.l0 k (markI n) ((1 + i : Nat) : Int) (i : Int)) n _ ?_ ?_ k hk
  · intro k i hi
    simp only [laws_heldIntS.l0]
    rw [if_pos (by simp [markI]; omega), if_pos (by omega), rd_nat, w64s i (by omega), w64s (1 + i) (by omega), if_pos (by simp [markI, hi])]
    rfl
  · intro k
    simp only [laws_heldIntS.l0]
    rw [if_neg (by simp [markI])]
theorem szTable_eq (N : Int) (s : ByteArray) (hs : s.size ≤ maxLen) : laws_szTable.f N s 1048576 = some (if (s.size : Int) > 1048576 then -1 else 1048576 - (s.size : Int)) := by
  unfold laws_szTable.f
  unfold maxLen at hs
  rw [w64 (by omega) (by omega)]
  split <;> split <;> first | rfl | omega
end Go.Proofs.Ytfincfnklcllnaa.Pure
