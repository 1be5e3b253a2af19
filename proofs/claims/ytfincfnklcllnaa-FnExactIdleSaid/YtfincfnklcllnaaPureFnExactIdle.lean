/- The program's Idle and the reference's: the bits on which a table does not depend. Conditions: lengths fit. -/
import Derived.Test.YtfincfnklcllnaaPureFnExactNeeds
import Derived.Test.YtfincfnklcllnaaGimplIdle
import Derived.Test.YtfincfnklcllnaaGimplrowed
import Derived.Test.YtfincfnklcllnaaGlawsFnExactIdle
import Derived.Test.YtfincfnklcllnaaGlawstoTable
import Derived.Test.YtfincfnklcllnaaGspecIdle
import Derived.Test.YtfincfnklcllnaaGspecl08Ok
set_option linter.unusedSimpArgs false
set_option linter.unusedVariables false
namespace Go.Proofs.Ytfincfnklcllnaa.Pure
open Go.RowKit Go.Proofs.Ytfincfnklcllnaa.G Go.Proofs.YtfincfnklcllnaaW.PrintWords Go.Proofs.YtfincfnklcllnaaW.PrintLast Go.Proofs.YtfincfnklcllnaaW.PrintMore

def idleOf (m : Nat) (N : Int) (s : ByteArray) : List Int := if (m : Int) = N then needsOf false N s else []
theorem idleOf_len (m : Nat) (N : Int) (s : ByteArray) : (idleOf m N s).length ≤ 12 := by
  unfold idleOf
  split
  · exact needsOf_len _ _ _
  · simp
theorem impl_Idle_eq (r : List Bool) (N : Int) (s : ByteArray) (hs : s.size ≤ 1099511627776) : ∀ k, s.size + 50000 < k → impl_Idle.f k r N s = some (idleOf r.length N s) := by
  intro k hk
  unfold impl_Idle.f impl_rowed.f idleOf needsOf
  rw [Option.bind_some, impl_TableOk_eq N s hs k (by omega), Option.bind_some]
  cases ht : tok N s with
  | false => simp
  | true =>
    obtain ⟨n, l, rfl, hn, hl, rfl⟩ := tok_form ht
    by_cases hr : (r.length : Int) = (n : Int)
    · rw [if_pos rfl, Option.bind_some, if_pos (by simpa using hr), if_pos hr, if_pos rfl, ones_back, Int.toNat_natCast]
      have h := rounds_ 5000 (fun k i => impl_Idle.l0 k (needsTo false n l i) (n : Int) (i : Int) (n : Int) (ones l)) n (needsTo false n l n) ?_ ?_ k (by omega)
      · exact h
      · intro k i hk hi
        have hx := needsTo_len false n l i
        simp only [impl_Idle.l0]
        rw [if_pos (by omega), impl_Table_needs_eq n l hn hl i hi k (by omega), Option.bind_some, needsTo_succ, w64s i (by omega)]
        cases hb : needsB n l i
        · rw [if_neg (by decide), if_pos (by omega), if_pos (by decide)]
        · rw [if_pos rfl, if_neg (by decide)]
      · intro k hk
        simp only [impl_Idle.l0]
        rw [if_neg (by omega)]
    · rw [if_pos rfl, Option.bind_some, if_neg (by simpa using hr), if_neg hr]
theorem mem_needsTo (n : Nat) (l : List Bool) (m i : Nat) (hi : i < m) : (i : Int) ∈ needsTo true n l m ↔ needsB n l i = true := by
  unfold needsTo
  simp only [List.mem_map, List.mem_filter, List.mem_range, beq_true]
  constructor
  · rintro ⟨j, ⟨_, h⟩, e⟩
    obtain rfl : j = i := by omega
    exact h
  · intro h
    exact ⟨i, ⟨hi, h⟩, rfl⟩
/-- The inner search tells whether a number is listed. -/
theorem spec_Idle_in (xs ys : List Int) (v : Int) (N : Int) (s : ByteArray) (hy : ys.length ≤ 100) : ∀ k, ys.length < k → ∃ j, k - ys.length - 1 ≤ j ∧
    spec_Idle.l1 k xs ys v false 0 N s = if ys.contains v then spec_Idle.l0 j xs ys (wrap64 (v + 1)) N s else if xs.length < 17592186044416 then spec_Idle.l0 j (xs ++ [v]) ys (wrap64 (v + 1)) N s else none := by
  intro k hk
  refine ⟨k - ys.length - 1, Nat.le_refl _, ?_⟩
  have h : ∀ d i k, i + d = ys.length → d < k → spec_Idle.l1 k xs ys v ((ys.take i).contains v) (i : Int) N s = if ys.contains v then spec_Idle.l0 (k - d - 1) xs ys (wrap64 (v + 1)) N s else if xs.length < 17592186044416 then spec_Idle.l0 (k - d - 1) (xs ++ [v]) ys (wrap64 (v + 1)) N s else none := by
    intro d
    induction d with
    | zero =>
      intro i k hi hk
      obtain ⟨k, rfl⟩ : ∃ m, k = m + 1 := ⟨k - 1, by omega⟩
      obtain rfl : i = ys.length := by omega
      simp only [spec_Idle.l1]
      rw [if_neg (by omega), List.take_length]
      rfl
    | succ d ih =>
      intro i k hi hk
      obtain ⟨k, rfl⟩ : ∃ m, k = m + 1 := ⟨k - 1, by omega⟩
      have hk' := ih (i + 1) k (by omega) (by omega)
      rw [show k + 1 - (d + 1) - 1 = k - d - 1 by omega, ← hk']
      simp only [spec_Idle.l1]
      rw [if_pos (by omega), if_pos (by omega), rd_nat, w64s i (by omega), take_succ_getD ys i 0 (by omega)]
      by_cases e : ys.getD i 0 = v
      · rw [if_pos e]
        simp only [List.contains_append, e]
        simp
      · rw [if_neg e]
        have e2 : (v == ys.getD i 0) = false := beq_eq_false_iff_ne.2 (fun h => e h.symm)
        simp only [List.contains_append, List.contains_cons, List.contains_nil, e2, Bool.or_false]
  have := h ys.length 0 k (by omega) hk
  simpa using this
theorem spec_Idle_out (n : Nat) (l : List Bool) (hn : n ≤ 12) (s : ByteArray) (d : Nat) : ∀ i k, i + d = n → d * 14 + 20 ≤ k → spec_Idle.l0 k (needsTo false n l i) (needsTo true n l n) (i : Int) (n : Int) s = some (needsTo false n l n) := by
  induction d with
  | zero =>
    intro i k hi hk
    obtain ⟨k, rfl⟩ : ∃ m, k = m + 1 := ⟨k - 1, by omega⟩
    obtain rfl : i = n := by omega
    simp only [spec_Idle.l0]
    rw [if_neg (by omega)]
  | succ d ih =>
    intro i k hi hk
    obtain ⟨k, rfl⟩ : ∃ m, k = m + 1 := ⟨k - 1, by omega⟩
    have hx := needsTo_len false n l i
    have hy := needsTo_len true n l n
    simp only [spec_Idle.l0]
    rw [if_pos (by omega)]
    obtain ⟨j, h1, h2⟩ := spec_Idle_in (needsTo false n l i) (needsTo true n l n) (i : Int) (n : Int) s (by omega) k (by omega)
    rw [h2, w64s i (by omega)]
    have h3 := ih (i + 1) j (by omega) (by omega)
    have hm := mem_needsTo n l n i (by omega)
    rw [needsTo_succ] at h3
    cases hb : needsB n l i
    · rw [if_neg (by simp; intro h; rw [hm, hb] at h; cases h), if_pos (by omega)]
      simpa [hb] using h3
    · rw [if_pos (by simpa using hm.2 hb)]
      simpa [hb] using h3
theorem spec_Idle_eq (r : List Bool) (N : Int) (s : ByteArray) (hs : s.size ≤ 1099511627776) : ∀ k, s.size + 50000 < k → spec_Idle.f k r N s = some (idleOf r.length N s) := by
  intro k hk
  unfold spec_Idle.f spec_l08Ok.f idleOf needsOf
  rw [Option.bind_some, spec_TableOk_eq N s hs k (by omega), Option.bind_some]
  cases ht : tok N s with
  | false => simp
  | true =>
    obtain ⟨n, l, rfl, hn, hl, rfl⟩ := tok_form ht
    by_cases hr : (r.length : Int) = (n : Int)
    · rw [if_pos rfl, Option.bind_some, if_pos (by simpa using hr), if_pos hr, if_pos rfl, ones_back, Int.toNat_natCast, spec_Needs_eq (n : Int) (ones l) hs k hk, if_pos ht, Option.bind_some, ones_back, Int.toNat_natCast]
      have h := spec_Idle_out n l hn (ones l) n 0 k (by omega) (by omega)
      rw [show needsTo false n l 0 = [] from rfl] at h
      exact h
    · rw [if_pos rfl, Option.bind_some, if_neg (by simpa using hr), if_neg hr]
theorem FnExactIdle_pure : ∀ (l0 : List Bool) (a1_0 : Int) (a1_1 : ByteArray), (l0.length ≤ maxLen ∧ ∀ x_ ∈ l0, True) → ((Lit.int .i64 a1_0).wf = true ∧ a1_1.size ≤ maxLen) → ∃ k, laws_FnExactIdle.f k l0 a1_0 a1_1 = some true := by
  intro r N s _ ⟨_, hs⟩
  by_cases hr : (r.length : Int) > 1048576
  · exact ⟨0, by unfold laws_FnExactIdle.f; rw [if_pos hr]⟩
  obtain ⟨k, hk, hk2⟩ : ∃ k, s.size + 50000 < k ∧ r.length < k := ⟨s.size + r.length + 50001, by omega, by omega⟩
  refine ⟨k + 1, ?_⟩
  unfold laws_FnExactIdle.f
  rw [if_neg hr, szTable_eq N s hs, Option.bind_some]
  by_cases h : (s.size : Int) > 1048576
  · rw [if_pos h, if_pos (by decide)]
  · rw [if_neg h, if_neg (by omega)]
    have e1 := spec_Idle_eq r N s (by omega)
    have e2 := impl_Idle_eq r N s (by omega)
    have hl := idleOf_len r.length N s
    generalize idleOf r.length N s = x at e1 e2 hl
    have hn : ¬ (((1 + x.length : Nat) : Int) < 0) := by omega
    have hn2 : ¬ (((1 + r.length : Nat) : Int) < 0) := by omega
    simp only [laws_toTable.f, Option.bind_some, toBoolS_eq r (by omega) (k + 1) (by omega), toBoolS_eq r (by omega) k (by omega), e1 (k + 1) (by omega), e2 (k + 1) (by omega), e2 k (by omega), eqIntS_self x (by omega) (k + 1) (by omega), eqIntS_self x (by omega) k (by omega),
      eqBoolS_self r (by omega) (k + 1) (by omega), markBoolS_eq r (by omega) (k + 1) (by omega), markIntS_eq x (by omega) k (by omega), heldIntS_eq x.length (by omega) k (by omega), if_true, if_neg hn, if_neg hn2, laws_FnExactIdle.j0, Bool.not_true, Bool.false_eq_true, if_false]
end Go.Proofs.Ytfincfnklcllnaa.Pure
