/- On which bits a table depends. Conditions: each lemma's own hypotheses. -/
import Derived.Test.YtfincfnklcllnaaTab
import Derived.Test.YtfincfnklcllnaaGimplNeeds
import Derived.Test.YtfincfnklcllnaaGimplTableneeds
import Derived.Test.YtfincfnklcllnaaGspecNeeds
set_option linter.unusedSimpArgs false
set_option linter.unusedVariables false
namespace Go.Proofs.Ytfincfnklcllnaa.Pure
open Go.RowKit Go.Proofs.Ytfincfnklcllnaa.G Go.Proofs.YtfincfnklcllnaaW.PrintWords Go.Proofs.YtfincfnklcllnaaW.PrintLast Go.Proofs.YtfincfnklcllnaaW.PrintMore

/-- Does place q's value differ from that with the bit of weight t set? -/
def diffAt (l : List Bool) (t q : Nat) : Bool := q / t % 2 == 0 && l.getD q false != l.getD (q + t) false
/-- Does the table depend on bit i? -/
def needsB (n : Nat) (l : List Bool) (i : Nat) : Bool := !((List.range (2 ^ n)).all fun q => !diffAt l (2 ^ (n - 1 - i)) q)
theorem half_lt {t m q : Nat} (ht : 0 < t) (h : q < t * (2 * m)) (he : q / t % 2 = 0) : q + t < t * (2 * m) := by
  have h1 : q / t < 2 * m := by rw [Nat.div_lt_iff_lt_mul ht, Nat.mul_comm]; exact h
  have h2 : (q + t) / t < 2 * m := by rw [Nat.add_div_right _ ht]; omega
  rw [Nat.div_lt_iff_lt_mul ht, Nat.mul_comm] at h2
  exact h2
theorem pow_split {n i : Nat} (hi : i < n) : 2 ^ n = 2 ^ (n - 1 - i) * (2 * 2 ^ i) := by
  rw [← Nat.mul_assoc, Nat.mul_comm _ 2, ← Nat.pow_succ', ← Nat.pow_add]
  congr 1
  omega
theorem and_pow (q j : Nat) : (q &&& 2 ^ j = 0) ↔ q / 2 ^ j % 2 = 0 := by
  have hb : q.testBit j = decide (q / 2 ^ j % 2 = 1) := Nat.testBit_eq_decide_div_mod_eq
  constructor
  · intro h
    have : (q &&& 2 ^ j).testBit j = false := by rw [h]; simp
    rw [Nat.testBit_and, Nat.testBit_two_pow_self, Bool.and_true, hb] at this
    simp at this
    omega
  · intro h
    apply Nat.eq_of_testBit_eq
    intro x
    rw [Nat.testBit_and, Nat.testBit_two_pow, Nat.zero_testBit]
    by_cases e : j = x
    · subst e
      rw [hb]
      simp [h]
    · simp [e]
theorem or_pow (q j : Nat) (h : q / 2 ^ j % 2 = 0) : q ||| 2 ^ j = q + 2 ^ j := by
  have hp : 0 < 2 ^ j := Nat.two_pow_pos j
  have hr : q % 2 ^ j < 2 ^ j := Nat.mod_lt _ hp
  have e1 : q = 2 ^ j * (q / 2 ^ j) + q % 2 ^ j := (Nat.div_add_mod q (2 ^ j)).symm
  have e2 : 2 ^ j * (q / 2 ^ j) = 2 ^ (j + 1) * (q / 2 ^ j / 2) := by
    rw [Nat.pow_succ, Nat.mul_assoc]
    congr 1
    omega
  have e3 : 2 ^ (j + 1) * (q / 2 ^ j / 2) + 2 ^ j = 2 ^ (j + 1) * (q / 2 ^ j / 2) ||| 2 ^ j := Nat.two_pow_add_eq_or_of_lt (by rw [Nat.pow_succ]; omega) _
  have e4 := Nat.two_pow_add_eq_or_of_lt hr (q / 2 ^ j)
  have e5 := Nat.two_pow_add_eq_or_of_lt hr (q / 2 ^ j + 1)
  rw [Nat.mul_add, Nat.mul_one] at e5
  have e6 : q + 2 ^ j = 2 ^ j * (q / 2 ^ j) + 2 ^ j + q % 2 ^ j := by omega
  rw [e6, e5, e2, e3, ← e2, Nat.or_assoc, Nat.or_comm (2 ^ j), ← Nat.or_assoc, ← e4, ← e1]
theorem wraps_i64 (n : Int) (h₀ : 0 ≤ n) (h₁ : n < 2 ^ 62) : IntKind.i64.wrap n = n := by rw [IntKind.wrap_i64]; omega
theorem and_i64 (a b : Nat) (ha : a < 2 ^ 62) (hb : b < 2 ^ 62) : Go.bits .and .i64 (a : Int) (b : Int) = ((a &&& b : Nat) : Int) := (bits_nat .i64 62 (by decide) wraps_i64 a b ha hb).1
theorem or_i64 (a b : Nat) (ha : a < 2 ^ 62) (hb : b < 2 ^ 62) : Go.bits .or .i64 (a : Int) (b : Int) = ((a ||| b : Nat) : Int) := (bits_nat .i64 62 (by decide) wraps_i64 a b ha hb).2
theorem sgn_inj {a b : Bool} : sgn a = sgn b ↔ a = b := by cases a <;> cases b <;> decide
theorem pow_cast (j : Nat) : (2 : Int) ^ j = ((2 ^ j : Nat) : Int) := by norm_cast
theorem impl_Table_needs_eq (n : Nat) (l : List Bool) (hn : n ≤ 12) (hl : l.length = 2 ^ n) (i : Nat) (hi : i < n) : ∀ k, 4096 < k → impl_Table_needs.f k (n : Int) (ones l) (i : Int) = some (needsB n l i) := by
  intro k hk
  have hp := pow12 hn
  have h12 : 2 ^ (n - 1 - i) ≤ 4096 := Nat.le_trans (Nat.pow_le_pow_right (by decide) (by omega)) hp
  have ht : 0 < 2 ^ (n - 1 - i) := Nat.two_pow_pos _
  unfold impl_Table_needs.f
  rw [w64 (n := (n : Int) - 1) (by omega) (by omega), w64 (by omega) (by omega), u64_of (by omega) (by omega), if_pos (by omega), show (n : Int) - 1 - (i : Int) = ((n - 1 - i : Nat) : Int) by omega, shl_eq _ (by omega), pow_cast, ones_size]
  generalize hT : 2 ^ (n - 1 - i) = T at *
  have hlt : ∀ q, q < l.length → q / T % 2 = 0 → q + T < l.length := by
    intro q hq he
    rw [hl, pow_split hi, hT] at hq ⊢
    exact half_lt ht hq he
  have h := rounds_all (fun k q => impl_Table_needs.l0 k (T : Int) (l.length : Int) (q : Int) (n : Int) (ones l)) l.length (fun q => !diffAt l T q) false true ?_ ?_ ?_ k (by omega)
  · refine h.trans ?_
    unfold needsB
    rw [hT, ← hl]
    cases (List.range l.length).all (fun q => !diffAt l T q) <;> rfl
  all_goals simp only [impl_Table_needs.l0]
  · intro k q hq hd
    simp only [diffAt, Bool.not_and, Bool.or_eq_true, Bool.not_eq_true', beq_eq_false_iff_ne, bne_eq_false_iff_eq] at hd
    rw [if_pos (by omega), and_i64 q T (by omega) (by omega), w64s q (by omega)]
    by_cases he : q / T % 2 = 0
    · have h2 := hlt q hq he
      have h3 := hd.resolve_left (by simpa using he)
      have ho : q ||| T = q + T := by rw [← hT] at he ⊢; exact or_pow q _ he
      rw [if_pos (by rw [← hT] at he ⊢; exact_mod_cast (and_pow q _).2 he), if_pos (by omega), if_pos (by rw [ones_size]; omega), or_i64 q T (by omega) (by omega), ho, if_pos (by omega), if_pos (by rw [ones_size]; omega), bt_ones l q hq, bt_ones l (q + T) h2, if_pos (by rw [h3])]
    · rw [if_neg (by rw [← hT] at he ⊢; intro h; exact he ((and_pow q _).1 (by exact_mod_cast h)))]
  · intro k q hq hd
    simp only [diffAt, Bool.not_eq_false', Bool.and_eq_true, beq_iff_eq, bne_iff_ne, ne_eq] at hd
    obtain ⟨he, h3⟩ := hd
    have h2 := hlt q hq he
    have ho : q ||| T = q + T := by rw [← hT] at he ⊢; exact or_pow q _ he
    rw [if_pos (by omega), and_i64 q T (by omega) (by omega), if_pos (by rw [← hT] at he ⊢; exact_mod_cast (and_pow q _).2 he), if_pos (by omega), if_pos (by rw [ones_size]; omega), or_i64 q T (by omega) (by omega), ho, if_pos (by omega), if_pos (by rw [ones_size]; omega), bt_ones l q hq, bt_ones l (q + T) h2, if_neg (fun h => h3 (sgn_inj.1 h))]
  · intro k
    rw [if_neg (by omega)]
/-- The numbers of the bits below i on which the table depends (or doesn't), ascending. -/
def needsTo (want : Bool) (n : Nat) (l : List Bool) (i : Nat) : List Int := ((List.range i).filter fun j => needsB n l j == want).map fun (j : Nat) => (j : Int)
theorem needsTo_succ (want : Bool) (n : Nat) (l : List Bool) (i : Nat) : needsTo want n l (i + 1) = if needsB n l i == want then needsTo want n l i ++ [(i : Int)] else needsTo want n l i := by
  unfold needsTo
  rw [List.range_succ, List.filter_append, List.map_append]
  by_cases h : needsB n l i == want
  · rw [if_pos h]
    simp [h]
  · rw [if_neg h]
    simp [h]
theorem needsTo_len (want : Bool) (n : Nat) (l : List Bool) (i : Nat) : (needsTo want n l i).length ≤ i := by
  unfold needsTo
  rw [List.length_map]
  exact Nat.le_trans (List.length_filter_le _ _) (by simp)
theorem spec_Needs_in (n : Nat) (l : List Bool) (hn : n ≤ 12) (hl : l.length = 2 ^ n) (i : Nat) (hi : i < n) (xs : List Int) (hx : xs.length ≤ 100) : ∀ k, l.length < k →
    ∃ j, k - l.length - 1 ≤ j ∧ spec_Needs.l1 k xs (i : Int) ((2 ^ (n - 1 - i) : Nat) : Int) 0 (n : Int) (ones l) = spec_Needs.l0 j (if needsB n l i then xs ++ [(i : Int)] else xs) ((i + 1 : Nat) : Int) (n : Int) (ones l) := by
  intro k hk
  have hp := pow12 hn
  have h12 : 2 ^ (n - 1 - i) ≤ 4096 := Nat.le_trans (Nat.pow_le_pow_right (by decide) (by omega)) hp
  have ht : 0 < 2 ^ (n - 1 - i) := Nat.two_pow_pos _
  generalize hT : 2 ^ (n - 1 - i) = T at *
  have hlt : ∀ q, q < l.length → q / T % 2 = 0 → q + T < l.length := by
    intro q hq he
    rw [hl, pow_split hi, hT] at hq ⊢
    exact half_lt ht hq he
  have hmod : ∀ q : Nat, q ≤ 4096 → (Int.tmod (wrap64 (Int.tdiv (q : Int) (T : Int))) 2 = 0 ↔ q / T % 2 = 0) := by
    intro q hq
    have hle : q / T ≤ q := Nat.div_le_self _ _
    have e : Int.tdiv (q : Int) (T : Int) = ((q / T : Nat) : Int) := by rw [Int.tdiv_eq_ediv_of_nonneg (by omega)]; rfl
    rw [e]
    generalize q / T = g at hle ⊢
    rw [w64 (by omega) (by omega), Int.tmod_eq_emod_of_nonneg (by omega)]
    omega
  suffices H : ∃ j, k - l.length - 1 ≤ j ∧ j < k ∧ spec_Needs.l1 k xs (i : Int) (T : Int) 0 (n : Int) (ones l) = if (List.range l.length).all (fun q => !diffAt l T q) then spec_Needs.l0 j xs ((i + 1 : Nat) : Int) (n : Int) (ones l) else spec_Needs.l0 j (xs ++ [(i : Int)]) ((i + 1 : Nat) : Int) (n : Int) (ones l) by
    obtain ⟨j, h1, _, h⟩ := H
    refine ⟨j, h1, h.trans ?_⟩
    unfold needsB
    rw [hT, ← hl]
    cases (List.range l.length).all (fun q => !diffAt l T q) <;> rfl
  refine rounds_to (fun k q => spec_Needs.l1 k xs (i : Int) (T : Int) (q : Int) (n : Int) (ones l)) l.length (fun q => !diffAt l T q) (fun k => spec_Needs.l0 k xs ((i + 1 : Nat) : Int) (n : Int) (ones l)) (fun k => spec_Needs.l0 k (xs ++ [(i : Int)]) ((i + 1 : Nat) : Int) (n : Int) (ones l)) ?_ ?_ ?_ k hk
  all_goals simp only [spec_Needs.l1]
  · intro k q hq _ hd
    simp only [diffAt, Bool.not_and, Bool.or_eq_true, Bool.not_eq_true', beq_eq_false_iff_ne, bne_eq_false_iff_eq] at hd
    rw [if_pos (by rw [ones_size]; omega), if_neg (by omega), w64s q (by omega)]
    by_cases he : q / T % 2 = 0
    · have h2 := hlt q hq he
      have h3 := hd.resolve_left (by simpa using he)
      rw [if_pos ((hmod q (by omega)).2 he), if_pos (by omega), w64 (n := (q : Int) + (T : Int)) (by omega) (by omega), if_pos (by omega), if_pos (by rw [ones_size]; omega), show (q : Int) + (T : Int) = ((q + T : Nat) : Int) by omega, bt_ones l q hq, bt_ones l (q + T) h2, if_pos (by rw [h3])]
    · rw [if_neg (fun h => he ((hmod q (by omega)).1 h))]
  · intro k q hq _ hd
    simp only [diffAt, Bool.not_eq_false', Bool.and_eq_true, beq_iff_eq, bne_iff_ne, ne_eq] at hd
    obtain ⟨he, h3⟩ := hd
    have h2 := hlt q hq he
    rw [if_pos (by rw [ones_size]; omega), if_neg (by omega), if_pos ((hmod q (by omega)).2 he), if_pos (by omega), w64 (n := (q : Int) + (T : Int)) (by omega) (by omega), if_pos (by omega), if_pos (by rw [ones_size]; omega), show (q : Int) + (T : Int) = ((q + T : Nat) : Int) by omega, bt_ones l q hq, bt_ones l (q + T) h2, if_neg (fun h => h3 (sgn_inj.1 h)), if_pos (by omega), w64s i (by omega)]
  · intro k _
    rw [if_neg (by rw [ones_size]; omega), w64s i (by omega)]
theorem spec_Needs_out (n : Nat) (l : List Bool) (hn : n ≤ 12) (hl : l.length = 2 ^ n) (M : Nat) (hM : 4098 ≤ M) (d : Nat) : ∀ i k, i + d = n → d * M + 70 ≤ k → spec_Needs.l0 k (needsTo true n l i) (i : Int) (n : Int) (ones l) = some (needsTo true n l n) := by
  have hp := pow12 hn
  induction d with
  | zero =>
    intro i k hi hk
    obtain ⟨k, rfl⟩ : ∃ m, k = m + 1 := ⟨k - 1, by omega⟩
    obtain rfl : i = n := by omega
    simp only [spec_Needs.l0]
    rw [if_neg (by omega)]
  | succ d ih =>
    intro i k hi hk
    obtain ⟨k, rfl⟩ : ∃ m, k = m + 1 := ⟨k - 1, by omega⟩
    have hx := needsTo_len true n l i
    simp only [spec_Needs.l0]
    rw [if_pos (by omega), w64 (n := (n : Int) - 1) (by omega) (by omega), w64 (by omega) (by omega), show (n : Int) - 1 - (i : Int) = ((n - 1 - i : Nat) : Int) by omega, pow2_eq _ (by omega) k (by rw [Nat.succ_mul] at hk; generalize d * M = X at hk; omega), Option.bind_some, pow_cast]
    have hk2 : 4168 ≤ k + 1 := by rw [Nat.succ_mul] at hk; generalize d * M = X at hk; omega
    obtain ⟨j, h1, h2⟩ := spec_Needs_in n l hn hl i (by omega) (needsTo true n l i) (by omega) k (by omega)
    rw [h2]
    have hlen : l.length ≤ 4096 := by omega
    clear h2 hx hl hp
    have hj : d * M + 70 ≤ j := by
      rw [Nat.succ_mul] at hk
      generalize d * M = X at hk ⊢
      omega
    have h3 := ih (i + 1) j (by omega) hj
    rw [needsTo_succ] at h3
    cases hb : needsB n l i <;> simpa [hb] using h3
theorem spec_Needs_eq (N : Int) (s : ByteArray) (hs : s.size ≤ 1099511627776) : ∀ k, s.size + 50000 < k → spec_Needs.f k N s = some (if tok N s then needsTo true N.toNat (s.data.toList.map fun c => c == 49) N.toNat else []) := by
  intro k hk
  unfold spec_Needs.f
  rw [Option.bind_some, spec_TableOk_eq N s hs k (by omega), Option.bind_some]
  cases ht : tok N s with
  | false => rfl
  | true =>
    obtain ⟨n, l, rfl, hn, hl, rfl⟩ := tok_form ht
    have e : (ones l).data.toList.map (fun c => c == 49) = l := by
      simp only [ones, List.map_map]
      exact (List.map_congr_left (fun b _ => by cases b <;> rfl)).trans (List.map_id l)
    rw [if_pos rfl, if_pos rfl, e, Int.toNat_natCast]
    obtain ⟨M, hM⟩ : ∃ M, M = 4098 := ⟨_, rfl⟩
    have h := spec_Needs_out n l hn hl M (by omega) n 0 k (by omega) (by have := Nat.mul_le_mul_right M hn; generalize n * M = X at this ⊢; omega)
    rw [show needsTo true n l 0 = [] from rfl] at h
    exact h
theorem ones_back (l : List Bool) : (ones l).data.toList.map (fun c => c == 49) = l := by
  simp only [ones, List.map_map]
  exact (List.map_congr_left (fun b _ => by cases b <;> rfl)).trans (List.map_id l)
theorem impl_Needs_eq (N : Int) (s : ByteArray) (hs : s.size ≤ 1099511627776) : ∀ k, s.size + 50000 < k → impl_Needs.f k N s = some (if tok N s then needsTo true N.toNat (s.data.toList.map fun c => c == 49) N.toNat else []) := by
  intro k hk
  unfold impl_Needs.f
  rw [Option.bind_some, impl_TableOk_eq N s hs k (by omega), Option.bind_some]
  cases ht : tok N s with
  | false => rfl
  | true =>
    obtain ⟨n, l, rfl, hn, hl, rfl⟩ := tok_form ht
    rw [if_pos rfl, if_pos rfl, ones_back, Int.toNat_natCast]
    have h := rounds_ 5000 (fun k i => impl_Needs.l0 k (needsTo true n l i) (n : Int) (i : Int) (n : Int) (ones l)) n (needsTo true n l n) ?_ ?_ k (by omega)
    · exact h
    · intro k i hk hi
      have hx := needsTo_len true n l i
      simp only [impl_Needs.l0]
      rw [if_pos (by omega), impl_Table_needs_eq n l hn hl i hi k (by omega), Option.bind_some, needsTo_succ, w64s i (by omega)]
      cases hb : needsB n l i
      · rw [if_neg (by decide), if_neg (by decide)]
      · rw [if_pos rfl, if_pos (by omega), if_pos (by decide)]
    · intro k hk
      simp only [impl_Needs.l0]
      rw [if_neg (by omega)]
end Go.Proofs.Ytfincfnklcllnaa.Pure
