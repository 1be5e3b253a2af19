/- The place that bits tell, and the value of a table there. Conditions: each lemma's own hypotheses. -/
import Derived.Test.YtfincfnklcllnaaTab
import Derived.Test.YtfincfnklcllnaaGimplTableAt
import Derived.Test.YtfincfnklcllnaaGimplplaceOfBits
import Derived.Test.YtfincfnklcllnaaGspecTableAt
import Derived.Test.YtfincfnklcllnaaGspecl01In
set_option linter.unusedSimpArgs false
set_option linter.unusedVariables false
namespace Go.Proofs.Ytfincfnklcllnaa.Pure
open Go.RowKit Go.Proofs.Ytfincfnklcllnaa.G Go.Proofs.YtfincfnklcllnaaW.PrintWords Go.Proofs.YtfincfnklcllnaaW.PrintLast Go.Proofs.YtfincfnklcllnaaW.PrintMore

/-- The place that bits tell. -/
def plc (l : List Int) : Int := l.foldl (fun a b => 2 * a + b) 0
def isBit (b : Int) : Bool := b == 0 || b == 1
theorem plc_snoc (l : List Int) (b : Int) : plc (l ++ [b]) = 2 * plc l + b := by simp [plc, List.foldl_append]
theorem plc_bd (l : List Int) (i : Nat) (hi : i ≤ l.length) (h : ∀ j, j < i → isBit (l.getD j 0) = true) : 0 ≤ plc (l.take i) ∧ plc (l.take i) < 2 ^ i := by
  induction i with
  | zero => simp [plc]
  | succ i ih =>
    obtain ⟨h0, h1⟩ := ih (by omega) (fun j hj => h j (by omega))
    have hb := h i (by omega)
    simp only [isBit, Bool.or_eq_true, beq_iff_eq] at hb
    rw [take_succ_getD l i 0 (by omega), plc_snoc, Int.pow_succ]
    omega
theorem all_getD (l : List Int) (p : Int → Bool) : (List.range l.length).all (fun i => p (l.getD i 0)) = l.all p := by
  rw [Bool.eq_iff_iff, List.all_eq_true, List.all_eq_true]
  constructor
  · intro h x hx
    obtain ⟨i, hi, rfl⟩ := List.getElem_of_mem hx
    have := h i (by simpa using hi)
    rwa [getD_lt l i 0 hi] at this
  · intro h i hi
    have hi' : i < l.length := by simpa using hi
    rw [getD_lt l i 0 hi']
    exact h _ (List.getElem_mem hi')
theorem placeOfBits_eq (l : List Int) (hl : l.length ≤ 60) : ∀ k, l.length < k → impl_placeOfBits.f k l = some (if l.all isBit then (plc l, true) else (0, false)) := by
  intro k hk
  unfold impl_placeOfBits.f
  rw [← all_getD l isBit]
  have h := rounds_pre (fun k i => impl_placeOfBits.l0 k (plc (l.take i)) l (l.length : Int) (i : Int)) l.length (fun i => isBit (l.getD i 0)) (plc l, true) (0, false) ?_ ?_ ?_ k hk
  · simpa [plc] using h
  · intro k i hi hp hb
    simp only [isBit, Bool.or_eq_true, beq_iff_eq] at hb
    obtain ⟨h0, h1⟩ := plc_bd l i (by omega) hp
    have hw := pow62 (n := i) (by omega)
    simp only [impl_placeOfBits.l0]
    rw [if_pos (by omega), if_pos (by omega), if_pos (by omega), rd_nat, w64s i (by omega), take_succ_getD l i 0 hi, plc_snoc, w64 (n := 2 * plc (l.take i)) (by omega) (by omega), w64 (by omega) (by omega)]
    rcases hb with hb | hb
    · rw [if_pos hb]
    · rw [if_neg (by omega), if_pos hb]
  · intro k i hi hp hb
    simp only [isBit, Bool.or_eq_false_iff, beq_eq_false_iff_ne] at hb
    simp only [impl_placeOfBits.l0]
    rw [if_pos (by omega), if_pos (by omega), if_pos (by omega), rd_nat, if_neg hb.1, if_neg hb.2]
  · intro k hp
    simp only [impl_placeOfBits.l0]
    rw [if_neg (by omega), List.take_length]
/-- More places than fit are no matter where one of the first is no bit; else the number wraps: nobody asks then. -/
theorem placeOfBits_any (l : List Int) (hl : l.length ≤ 1099511627776) : ∃ x, ∀ k, l.length < k → impl_placeOfBits.f k l = some (if l.all isBit then (x, true) else (0, false)) := by
  refine ⟨l.foldl (fun a b => wrap64 (wrap64 (2 * a) + b)) 0, fun k hk => ?_⟩
  unfold impl_placeOfBits.f
  rw [← all_getD l isBit]
  have h := rounds_pre (fun k i => impl_placeOfBits.l0 k ((l.take i).foldl (fun a b => wrap64 (wrap64 (2 * a) + b)) 0) l (l.length : Int) (i : Int)) l.length (fun i => isBit (l.getD i 0)) (l.foldl (fun a b => wrap64 (wrap64 (2 * a) + b)) 0, true) (0, false) ?_ ?_ ?_ k hk
  · simpa using h
  · intro k i hi hp hb
    simp only [isBit, Bool.or_eq_true, beq_iff_eq] at hb
    simp only [impl_placeOfBits.l0]
    rw [if_pos (by omega), if_pos (by omega), if_pos (by omega), rd_nat, w64s i (by omega), take_succ_getD l i 0 hi, List.foldl_append]
    rcases hb with hb | hb
    · rw [if_pos hb]; rfl
    · rw [if_neg (by omega), if_pos hb]; rfl
  · intro k i hi hp hb
    simp only [isBit, Bool.or_eq_false_iff, beq_eq_false_iff_ne] at hb
    simp only [impl_placeOfBits.l0]
    rw [if_pos (by omega), if_pos (by omega), if_pos (by omega), rd_nat, if_neg hb.1, if_neg hb.2]
  · intro k hp
    simp only [impl_placeOfBits.l0]
    rw [if_neg (by omega), List.take_length]
/-- The value of a table at bits; -1 where they are none. -/
def valAt (N : Int) (s : ByteArray) (l : List Int) : Int := if tok N s ∧ (l.length : Int) = N ∧ l.all isBit then bt s (plc l) - 48 else -1
theorem bt_digit {n : Nat} {l : List Bool} {x : Int} (h0 : 0 ≤ x) (h1 : x < l.length) : bt (ones l) x = 48 ∨ bt (ones l) x = 49 := by
  obtain ⟨i, rfl⟩ := Int.eq_ofNat_of_zero_le h0
  rw [bt_ones l i (by omega)]
  unfold sgn
  split <;> simp
theorem impl_TableAt_eq (N : Int) (s : ByteArray) (l : List Int) (hs : s.size ≤ 1099511627776) : ∀ k, s.size + 40 < k → impl_TableAt.f k N s l = some (valAt N s l) := by
  intro k hk
  obtain ⟨k, rfl⟩ : ∃ m, k = m + 1 := ⟨k - 1, by omega⟩
  unfold impl_TableAt.f
  rw [impl_TableOk_eq N s hs (k + 1) (by omega), Option.bind_some]
  cases ht : tok N s with
  | false => simp [impl_TableAt.j0, valAt, ht]
  | true =>
    obtain ⟨n, t, rfl, hn, hl, rfl⟩ := tok_form ht
    rw [if_pos rfl]
    simp only [impl_TableAt.j0]
    by_cases hln : (l.length : Int) = (n : Int)
    · rw [if_neg (by simp [hln]), placeOfBits_eq l (by omega) k (by omega), Option.bind_some]
      cases hb : l.all isBit with
      | false => simp [valAt, hb]
      | true =>
        have hbd := plc_bd l l.length (Nat.le_refl _) (fun j hj => List.all_eq_true.1 hb _ (by rw [getD_lt l j 0 hj]; exact List.getElem_mem hj))
        rw [List.take_length] at hbd
        have h2 : ((t.length : Nat) : Int) = 2 ^ l.length := by rw [hl, show l.length = n by omega]; norm_cast
        have hd := bt_digit (n := n) (l := t) hbd.1 (by omega)
        simp only [if_true]
        rw [if_pos hbd.1, if_pos (by rw [ones_size]; omega), valAt, if_pos ⟨ht, hln, hb⟩]
        congr 1
        omega
    · rw [if_pos (by simpa using hln), valAt, if_neg (fun h => hln h.2.1)]
theorem spec_TableAt_eq (N : Int) (s : ByteArray) (l : List Int) (hs : s.size ≤ 1099511627776) : ∀ k, s.size + 40 < k → spec_TableAt.f k N s l = some (valAt N s l) := by
  intro k hk
  obtain ⟨k, rfl⟩ : ∃ m, k = m + 1 := ⟨k - 1, by omega⟩
  unfold spec_TableAt.f
  rw [spec_TableOk_eq N s hs (k + 1) (by omega), Option.bind_some]
  cases ht : tok N s with
  | false => simp [spec_TableAt.j0, valAt, ht]
  | true =>
    obtain ⟨n, t, rfl, hn, hl, rfl⟩ := tok_form ht
    rw [if_pos rfl]
    simp only [spec_TableAt.j0]
    by_cases hln : (l.length : Int) = (n : Int)
    · rw [if_neg (by simp [hln])]
      have h := rounds_pre (fun k i => spec_TableAt.l0 k l (plc (l.take i)) (i : Int) (n : Int) (ones t)) l.length (fun i => isBit (l.getD i 0)) (bt (ones t) (plc l) - 48) (-1) ?_ ?_ ?_ k (by omega)
      · rw [all_getD] at h
        refine Eq.trans ?_ (h.trans ?_)
        · simp [plc]
        · congr 1
          rw [valAt]
          cases hb : l.all isBit <;> simp [ht, hln]
      · intro k i hi hp hb
        simp only [isBit, Bool.or_eq_true, beq_iff_eq] at hb
        obtain ⟨h0, h1⟩ := plc_bd l i (by omega) hp
        have hw := pow62 (n := i) (by omega)
        simp only [spec_TableAt.l0, spec_l01In.f]
        rw [if_pos (by omega), if_pos (by omega), rd_nat, if_pos (by omega), decide_eq_true (show l.getD i 0 ≤ 1 by omega), Option.bind_some, if_pos rfl, w64s i (by omega), take_succ_getD l i 0 hi, plc_snoc, w64 (n := 2 * plc (l.take i)) (by omega) (by omega), w64 (by omega) (by omega)]
      · intro k i hi hp hb
        simp only [isBit, Bool.or_eq_false_iff, beq_eq_false_iff_ne] at hb
        simp only [spec_TableAt.l0, spec_l01In.f]
        rw [if_pos (by omega), if_pos (by omega), rd_nat]
        by_cases h0 : l.getD i 0 ≥ 0
        · rw [if_pos h0, decide_eq_false (by omega)]
          simp
        · rw [if_neg h0]
          simp
      · intro k hp
        have hbd := plc_bd l l.length (Nat.le_refl _) hp
        rw [List.take_length] at hbd
        have h2 : ((t.length : Nat) : Int) = 2 ^ l.length := by rw [hl, show l.length = n by omega]; norm_cast
        have hd := bt_digit (n := n) (l := t) hbd.1 (by omega)
        simp only [spec_TableAt.l0]
        rw [if_neg (by omega), List.take_length, if_pos hbd.1, if_pos (by rw [ones_size]; omega), w64 (n := bt (ones t) (plc l)) (by omega) (by omega), w64 (by omega) (by omega)]
    · rw [if_pos (by simpa using hln), valAt, if_neg (fun h => hln h.2.1)]
end Go.Proofs.Ytfincfnklcllnaa.Pure
