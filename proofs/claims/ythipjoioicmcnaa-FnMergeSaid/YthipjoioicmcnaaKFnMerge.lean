-- texts of this session, merged by a program of it (wip/gen/pack.py)
import Derived.Test.YthipjoioicmcnaaKFnMerge5
import Derived.Test.YthipjoioicmcnaaKFnMerge3
import Derived.Test.YthipjoioicmcnaaKFnMerge2
import Derived.Test.YthipjoioicmcnaaKFnMerge4
import Derived.Test.YthipjoioicmcnaaKFnMerge1
import Derived.ProofKit
import Derived.WalkKit
import Derived.Deep.Slices
import Derived.OpenShut
import Derived.ChangeVars
import Derived.ChangeOld
import Derived.Below
import Derived.Test.YthipjoioicmcnaaWWords
import Derived.Test.YthipjoioicmcnaaRows
import Derived.ShutString
/- On which bits a table depends. Conditions: each lemma's own hypotheses. -/
set_option linter.unusedSimpArgs false
set_option linter.unusedVariables false
namespace Go.Proofs.Ythipjoioicmcnaa.Pure
open Go.RowKit Go.Proofs.Ythipjoioicmcnaa.G Go.Proofs.YthipjoioicmcnaaW.PrintWords Go.Proofs.YthipjoioicmcnaaW.PrintLast Go.Proofs.YthipjoioicmcnaaW.PrintMore

/-- Does place q's value differ from that with the bit of weight t set? -/
def diffAt (l : List Bool) (t q : Nat) : Bool := q / t % 2 == 0 && l.getD q false != l.getD (q + t) false
/-- Does the table depend on bit i? -/
def needsB (n : Nat) (l : List Bool) (i : Nat) : Bool := !((List.range (2 ^ n)).all fun q => !diffAt l (2 ^ (n - 1 - i)) q)
theorem half_lt {t m q : Nat} (ht : 0 < t) (h : q < t * (2 * m)) (he : q / t % 2 = 0) : q + t < t * (2 * m) := by
  have h1 : q / t < 2 * m := by rw [Nat.div_lt_iff_lt_mul ht, Nat.mul_comm]; exact h
  have h2 : (q + t) / t < 2 * m := by rw [Nat.add_div_right _ ht]; omega
  rw [Nat.div_lt_iff_lt_mul ht, Nat.mul_comm] at h2
  exact h2
theorem pow_split {n i : Nat} (hi : i < n) : 2 ^ n = 2 ^ (n - 1 - i) * (2 * 2 ^ i) := by
  rw [← Nat.mul_assoc, Nat.mul_comm _ 2, ← Nat.pow_succ', ← Nat.pow_add]
  congr 1
  omega
theorem and_pow (q j : Nat) : (q &&& 2 ^ j = 0) ↔ q / 2 ^ j % 2 = 0 := by
  have hb : q.testBit j = decide (q / 2 ^ j % 2 = 1) := Nat.testBit_eq_decide_div_mod_eq
  constructor
  · intro h
    have : (q &&& 2 ^ j).testBit j = false := by rw [h]; simp
    rw [Nat.testBit_and, Nat.testBit_two_pow_self, Bool.and_true, hb] at this
    simp at this
    omega
  · intro h
    apply Nat.eq_of_testBit_eq
    intro x
    rw [Nat.testBit_and, Nat.testBit_two_pow, Nat.zero_testBit]
    by_cases e : j = x
    · subst e
      rw [hb]
      simp [h]
    · simp [e]
theorem or_pow (q j : Nat) (h : q / 2 ^ j % 2 = 0) : q ||| 2 ^ j = q + 2 ^ j := by
  have hp : 0 < 2 ^ j := Nat.two_pow_pos j
  have hr : q % 2 ^ j < 2 ^ j := Nat.mod_lt _ hp
  have e1 : q = 2 ^ j * (q / 2 ^ j) + q % 2 ^ j := (Nat.div_add_mod q (2 ^ j)).symm
  have e2 : 2 ^ j * (q / 2 ^ j) = 2 ^ (j + 1) * (q / 2 ^ j / 2) := by
    rw [Nat.pow_succ, Nat.mul_assoc]
    congr 1
    omega
  have e3 : 2 ^ (j + 1) * (q / 2 ^ j / 2) + 2 ^ j = 2 ^ (j + 1) * (q / 2 ^ j / 2) ||| 2 ^ j := Nat.two_pow_add_eq_or_of_lt (by rw [Nat.pow_succ]; omega) _
  have e4 := Nat.two_pow_add_eq_or_of_lt hr (q / 2 ^ j)
  have e5 := Nat.two_pow_add_eq_or_of_lt hr (q / 2 ^ j + 1)
  rw [Nat.mul_add, Nat.mul_one] at e5
  have e6 : q + 2 ^ j = 2 ^ j * (q / 2 ^ j) + 2 ^ j + q % 2 ^ j := by omega
  rw [e6, e5, e2, e3, ← e2, Nat.or_assoc, Nat.or_comm (2 ^ j), ← Nat.or_assoc, ← e4, ← e1]
theorem wraps_i64 (n : Int) (h₀ : 0 ≤ n) (h₁ : n < 2 ^ 62) : IntKind.i64.wrap n = n := by rw [IntKind.wrap_i64]; omega
theorem and_i64 (a b : Nat) (ha : a < 2 ^ 62) (hb : b < 2 ^ 62) : Go.bits .and .i64 (a : Int) (b : Int) = ((a &&& b : Nat) : Int) := (bits_nat .i64 62 (by decide) wraps_i64 a b ha hb).1
theorem or_i64 (a b : Nat) (ha : a < 2 ^ 62) (hb : b < 2 ^ 62) : Go.bits .or .i64 (a : Int) (b : Int) = ((a ||| b : Nat) : Int) := (bits_nat .i64 62 (by decide) wraps_i64 a b ha hb).2
theorem sgn_inj {a b : Bool} : sgn a = sgn b ↔ a = b := by cases a <;> cases b <;> decide
theorem pow_cast (j : Nat) : (2 : Int) ^ j = ((2 ^ j : Nat) : Int) := by norm_cast
theorem impl_Table_needs_eq (n : Nat) (l : List Bool) (hn : n ≤ 12) (hl : l.length = 2 ^ n) (i : Nat) (hi : i < n) : ∀ k, 4096 < k → impl_Table_needs.f k (n : Int) (ones l) (i : Int) = some (needsB n l i) := by
  intro k hk
  have hp := pow12 hn
  have h12 : 2 ^ (n - 1 - i) ≤ 4096 := Nat.le_trans (Nat.pow_le_pow_right (by decide) (by omega)) hp
  have ht : 0 < 2 ^ (n - 1 - i) := Nat.two_pow_pos _
  unfold impl_Table_needs.f
  rw [w64 (n := (n : Int) - 1) (by omega) (by omega), w64 (by omega) (by omega), u64_of (by omega) (by omega), if_pos (by omega), show (n : Int) - 1 - (i : Int) = ((n - 1 - i : Nat) : Int) by omega, shl_eq _ (by omega), pow_cast, ones_size]
  generalize hT : 2 ^ (n - 1 - i) = T at *
  have hlt : ∀ q, q < l.length → q / T % 2 = 0 → q + T < l.length := by
    intro q hq he
    rw [hl, pow_split hi, hT] at hq ⊢
    exact half_lt ht hq he
  have h := rounds_all (fun k q => impl_Table_needs.l0 k (T : Int) (l.length : Int) (q : Int) (n : Int) (ones l)) l.length (fun q => !diffAt l T q) false true ?_ ?_ ?_ k (by omega)
  · refine h.trans ?_
    unfold needsB
    rw [hT, ← hl]
    cases (List.range l.length).all (fun q => !diffAt l T q) <;> rfl
  all_goals simp only [impl_Table_needs.l0]
  · intro k q hq hd
    simp only [diffAt, Bool.not_and, Bool.or_eq_true, Bool.not_eq_true', beq_eq_false_iff_ne, bne_eq_false_iff_eq] at hd
    rw [if_pos (by omega), and_i64 q T (by omega) (by omega), w64s q (by omega)]
    by_cases he : q / T % 2 = 0
    · have h2 := hlt q hq he
      have h3 := hd.resolve_left (by simpa using he)
      have ho : q ||| T = q + T := by rw [← hT] at he ⊢; exact or_pow q _ he
      rw [if_pos (by rw [← hT] at he ⊢; exact_mod_cast (and_pow q _).2 he), if_pos (by omega), if_pos (by rw [ones_size]; omega), or_i64 q T (by omega) (by omega), ho, if_pos (by omega), if_pos (by rw [ones_size]; omega), bt_ones l q hq, bt_ones l (q + T) h2, if_pos (by rw [h3])]
    · rw [if_neg (by rw [← hT] at he ⊢; intro h; exact he ((and_pow q _).1 (by exact_mod_cast h)))]
  · intro k q hq hd
    simp only [diffAt, Bool.not_eq_false', Bool.and_eq_true, beq_iff_eq, bne_iff_ne, ne_eq] at hd
    obtain ⟨he, h3⟩ := hd
    have h2 := hlt q hq he
    have ho : q ||| T = q + T := by rw [← hT] at he ⊢; exact or_pow q _ he
    rw [if_pos (by omega), and_i64 q T (by omega) (by omega), if_pos (by rw [← hT] at he ⊢; exact_mod_cast (and_pow q _).2 he), if_pos (by omega), if_pos (by rw [ones_size]; omega), or_i64 q T (by omega) (by omega), ho, if_pos (by omega), if_pos (by rw [ones_size]; omega), bt_ones l q hq, bt_ones l (q + T) h2, if_neg (fun h => h3 (sgn_inj.1 h))]
  · intro k
    rw [if_neg (by omega)]
/-- The numbers of the bits below i on which the table depends (or doesn't), ascending. -/
def needsTo (want : Bool) (n : Nat) (l : List Bool) (i : Nat) : List Int := ((List.range i).filter fun j => needsB n l j == want).map fun (j : Nat) => (j : Int)
theorem needsTo_succ (want : Bool) (n : Nat) (l : List Bool) (i : Nat) : needsTo want n l (i + 1) = if needsB n l i == want then needsTo want n l i ++ [(i : Int)] else needsTo want n l i := by
  unfold needsTo
  rw [List.range_succ, List.filter_append, List.map_append]
  by_cases h : needsB n l i == want
  · rw [if_pos h]
    simp [h]
  · rw [if_neg h]
    simp [h]
theorem needsTo_len (want : Bool) (n : Nat) (l : List Bool) (i : Nat) : (needsTo want n l i).length ≤ i := by
  unfold needsTo
  rw [List.length_map]
  exact Nat.le_trans (List.length_filter_le _ _) (by simp)
theorem ones_back (l : List Bool) : (ones l).data.toList.map (fun c => c == 49) = l := by
  simp only [ones, List.map_map]
  exact (List.map_congr_left (fun b _ => by cases b <;> rfl)).trans (List.map_id l)
theorem impl_Needs_eq (N : Int) (s : ByteArray) (hs : s.size ≤ 1099511627776) : ∀ k, s.size + 50000 < k → impl_Needs.f k N s = some (if tok N s then needsTo true N.toNat (s.data.toList.map fun c => c == 49) N.toNat else []) := by
  intro k hk
  unfold impl_Needs.f
  rw [Option.bind_some, impl_TableOk_eq N s hs k (by omega), Option.bind_some]
  cases ht : tok N s with
  | false => rfl
  | true =>
    obtain ⟨n, l, rfl, hn, hl, rfl⟩ := tok_form ht
    rw [if_pos rfl, if_pos rfl, ones_back, Int.toNat_natCast]
    have h := rounds_ 5000 (fun k i => impl_Needs.l0 k (needsTo true n l i) (n : Int) (i : Int) (n : Int) (ones l)) n (needsTo true n l n) ?_ ?_ k (by omega)
    · exact h
    · intro k i hk hi
      have hx := needsTo_len true n l i
      simp only [impl_Needs.l0]
      rw [if_pos (by omega), impl_Table_needs_eq n l hn hl i hi k (by omega), Option.bind_some, needsTo_succ, w64s i (by omega)]
      cases hb : needsB n l i
      · rw [if_neg (by decide), if_neg (by decide)]
      · rw [if_pos rfl, if_pos (by omega), if_pos (by decide)]
    · intro k hk
      simp only [impl_Needs.l0]
      rw [if_neg (by omega)]
end Go.Proofs.Ythipjoioicmcnaa.Pure
/- What the reference's draws hand out: always something, within bounds. Conditions: each lemma's own hypotheses. -/
set_option linter.unusedSimpArgs false
set_option linter.unusedVariables false
namespace Go.Proofs.Ythipjoioicmcnaa.Pure
open Go.RowKit Go.Proofs.Ythipjoioicmcnaa.G Go.Proofs.YthipjoioicmcnaaW.PrintWords Go.Proofs.YthipjoioicmcnaaW.PrintLast Go.Proofs.YthipjoioicmcnaaW.PrintMore

theorem and255 (x : Int) : 0 ≤ Go.bits .and .i64 x 255 ∧ Go.bits .and .i64 x 255 ≤ 255 := by
  simp only [Go.bits, BitVec.toNat_and]
  have h : (BitVec.ofInt IntKind.i64.bits x).toNat &&& (BitVec.ofInt IntKind.i64.bits 255).toNat ≤ 255 := Nat.le_trans Nat.and_le_right (by decide)
  rw [wraps_i64 _ (by omega) (by omega)]
  omega
/-- The place in the draw's bytes is one of theirs, or their end. -/
def stOk (b : List Int) (i : Int) : Prop := 0 ≤ i ∧ i ≤ b.length ∧ b.length ≤ 1099511627776
theorem byte_ok {b : List Int} {i : Int} (h : Int) (hi : stOk b i) : ∃ v i' h', spec_l01Byte.f b i h = some (v, i', h') ∧ 0 ≤ v ∧ v ≤ 255 ∧ stOk b i' := by
  unfold spec_l01Byte.f
  obtain ⟨h0, h1, h2⟩ := hi
  by_cases hc : i < (b.length : Int)
  · rw [if_pos hc, if_pos h0]
    exact ⟨_, _, _, rfl, (and255 _).1, (and255 _).2, by rw [w64 (by omega) (by omega)]; exact ⟨by omega, by omega, h2⟩⟩
  · rw [if_neg hc]
    exact ⟨_, _, _, rfl, (and255 _).1, (and255 _).2, h0, h1, h2⟩
theorem below_ok {b : List Int} {i : Int} (h a : Int) (hi : stOk b i) (h0 : 0 < a) (h1 : a ≤ 256) : ∃ v i' h', spec_l01Below.f b i h a = some (v, i', h') ∧ 0 ≤ v ∧ v < a ∧ stOk b i' := by
  unfold spec_l01Below.f
  obtain ⟨v, i', h', e, hv0, hv1, hi'⟩ := byte_ok h hi
  rw [if_neg (by omega), if_pos h1, e, Option.bind_some, if_neg (by omega)]
  refine ⟨_, _, _, rfl, ?_, ?_, hi'⟩
  · simp only; rw [Int.tmod_eq_emod_of_nonneg hv0]; exact Int.emod_nonneg _ (by omega)
  · simp only; rw [Int.tmod_eq_emod_of_nonneg hv0]; exact Int.emod_lt_of_pos _ h0
theorem once_ok {b : List Int} {i : Int} (h a : Int) (hi : stOk b i) (h0 : 0 < a) (h1 : a ≤ 256) : ∃ t i' h', spec_l01Once.f b i h a = some (t, i', h') ∧ stOk b i' := by
  unfold spec_l01Once.f
  obtain ⟨v, i', h', e, _, _, hi'⟩ := below_ok h a hi h0 h1
  rw [e, Option.bind_some]
  exact ⟨_, _, _, rfl, hi'⟩
theorem new_ok (b : List Int) (hb : b.length ≤ 1099511627776) : ∀ k, b.length < k → ∃ h, spec_l01New.f k b = some (b, 0, h) := by
  have H : ∀ d (i : Nat) h k, i + d = b.length → d < k → ∃ h', spec_l01New.l0 k b h (i : Int) = some (b, 0, h') := by
    intro d
    induction d with
    | zero =>
      intro i h k hi hk
      obtain ⟨k, rfl⟩ : ∃ m, k = m + 1 := ⟨k - 1, by omega⟩
      simp only [spec_l01New.l0]
      rw [if_neg (by omega)]
      exact ⟨_, rfl⟩
    | succ d ih =>
      intro i h k hi hk
      obtain ⟨k, rfl⟩ : ∃ m, k = m + 1 := ⟨k - 1, by omega⟩
      simp only [spec_l01New.l0]
      rw [if_pos (by omega)]
      by_cases h4 : (i : Int) < 4000
      · rw [if_pos h4, if_pos (by omega), w64s i (by omega)]
        exact ih (i + 1) _ k (by omega) (by omega)
      · rw [if_neg h4]
        exact ⟨_, rfl⟩
  intro k hk
  exact H b.length 0 _ k (by omega) hk
theorem st_zero {b : List Int} (hb : b.length ≤ 1099511627776) : stOk b 0 := ⟨by omega, by omega, hb⟩
theorem table_fill (n : Int) (b : List Int) (i h : Int) (xs : List Int) (hx : xs.length ≤ 4096) : ∀ k, xs.length < k → spec_l06Table.l1 k n xs 0 b i h = some (n, ones (List.replicate xs.length true), i, h) := by
  intro k hk
  rw [← strOfNums_ones, List.map_replicate]
  have h1 := rounds (fun k j => spec_l06Table.l1 k n ((List.replicate xs.length (sgn true)).take j ++ xs.drop j) (j : Int) b i h) xs.length (n, strOfNums (List.replicate xs.length (sgn true)), i, h) ?_ ?_ k hk
  · simpa using h1
  · intro k j hj
    simp only [spec_l06Table.l1]
    rw [if_pos (by simp; omega), if_pos (by omega), w64s j (by omega), Int.toNat_natCast, show (49 : Int) = sgn true from rfl, set_front (List.replicate xs.length (sgn true)) xs j (sgn true) (by simp) hj (by simp [hj])]
  · intro k
    simp only [spec_l06Table.l1]
    rw [if_neg (by simp), List.take_of_length_le (by simp)]
    simp
theorem bit_sgn {v : Int} (h0 : 0 ≤ v) (h1 : v < 2) : wrap64 (48 + v) % 256 = sgn (v == 1) := by
  rcases (show v = 0 ∨ v = 1 by omega) with h | h <;> subst h <;> decide +kernel
theorem table_ok (n : Nat) (hn : n ≤ 12) {b : List Int} {i : Int} (h : Int) (hi : stOk b i) : ∀ k, 8300 < k → ∃ l i' h', spec_l06Table.f k b i h (n : Int) = some ((n : Int), ones l, i', h') ∧ l.length = 2 ^ n ∧ stOk b i' := by
  have hp := pow12 hn
  have H : ∀ d (j : Nat) (acc : List Bool) (m i h : Int) k, j + d = 2 ^ n → acc.length = j → stOk b i → d + 4100 < k → ∃ l i' h', spec_l06Table.l0 k (n : Int) (acc.map sgn) m (j : Int) b i h = some ((n : Int), ones l, i', h') ∧ l.length = 2 ^ n ∧ stOk b i' := by
    intro d
    induction d with
    | zero =>
      intro j acc m i h k hj ha hi hk
      obtain ⟨k, rfl⟩ : ∃ m, k = m + 1 := ⟨k - 1, by omega⟩
      simp only [spec_l06Table.l0]
      rw [pow2_eq n (by omega) k (by omega), Option.bind_some, if_neg (by rw [pow_cast]; omega)]
      obtain ⟨t, i', h', e, hi'⟩ := once_ok h 8 hi (by omega) (by omega)
      rw [e, Option.bind_some]
      cases t
      · rw [if_neg (by simp), strOfNums_ones]
        exact ⟨acc, _, _, rfl, by omega, hi'⟩
      · rw [if_pos rfl, table_fill _ _ _ _ _ (by simp; omega) k (by simp; omega)]
        exact ⟨_, _, _, rfl, by simp; omega, hi'⟩
    | succ d ih =>
      intro j acc m i h k hj ha hi hk
      obtain ⟨k, rfl⟩ : ∃ m, k = m + 1 := ⟨k - 1, by omega⟩
      have next : ∀ (v : Bool) (i h : Int), stOk b i → ∃ l i' h', (if (acc.map sgn).length < 140737488355328 then spec_l06Table.l0 k (n : Int) (acc.map sgn ++ [sgn v]) m (wrap64 ((j : Int) + 1)) b i h else none) = some ((n : Int), ones l, i', h') ∧ l.length = 2 ^ n ∧ stOk b i' := by
        intro v i h hi
        rw [if_pos (by simp; omega), w64s j (by omega), show acc.map sgn ++ [sgn v] = (acc ++ [v]).map sgn from by simp]
        exact ih (j + 1) (acc ++ [v]) m i h k (by omega) (by simp; omega) hi (by omega)
      simp only [spec_l06Table.l0]
      rw [pow2_eq n (by omega) k (by omega), Option.bind_some, if_pos (by rw [pow_cast]; omega)]
      obtain ⟨v, i', h', e, hv0, hv1, hi'⟩ := below_ok h 2 hi (by omega) (by omega)
      rw [e, Option.bind_some]
      simp only
      rw [bit_sgn hv0 hv1]
      by_cases h0 : m = 0
      · rw [if_pos h0]
        have hb2 : 0 ≤ Int.tmod (wrap64 (Int.tdiv (j : Int) 2)) 2 ∧ Int.tmod (wrap64 (Int.tdiv (j : Int) 2)) 2 < 2 := by
          rw [Int.tdiv_eq_ediv_of_nonneg (by omega), w64 (by omega) (by omega), Int.tmod_eq_emod_of_nonneg (by omega)]
          omega
        rw [bit_sgn hb2.1 hb2.2]
        exact next _ _ _ hi'
      · rw [if_neg h0]
        by_cases h1 : m = 1
        · rw [if_pos h1]
          obtain ⟨t, i2, h2, e2, hi2⟩ := once_ok h' 2 hi' (by omega) (by omega)
          rw [e2, Option.bind_some]
          cases t
          · rw [if_neg (by simp)]
            exact next _ _ _ hi2
          · rw [if_pos rfl, show (48 : Int) = sgn false from rfl]
            exact next _ _ _ hi2
        · rw [if_neg h1]
          exact next _ _ _ hi'
  intro k hk
  unfold spec_l06Table.f
  obtain ⟨m, i', h', e, _, _, hi'⟩ := below_ok h 4 hi (by omega) (by omega)
  rw [e, Option.bind_some]
  exact H (2 ^ n) 0 [] m i' h' k (by omega) rfl hi' (by omega)
theorem row_ok (n : Nat) (hn : n ≤ 12) {b : List Int} {i : Int} (h : Int) (hi : stOk b i) : ∀ k, n < k → ∃ r i' h', spec_l08Row.f k b i h (n : Int) = some (r, i', h') ∧ r.length = n ∧ stOk b i' := by
  have H : ∀ d (j : Nat) (acc : List Bool) (i h : Int) k, j + d = n → acc.length = j → stOk b i → d < k → ∃ l i' h', spec_l08Row.l0 k (n : Int) acc (j : Int) b i h = some (l, i', h') ∧ l.length = n ∧ stOk b i' := by
    intro d
    induction d with
    | zero =>
      intro j acc i h k hj ha hi hk
      obtain ⟨k, rfl⟩ : ∃ m, k = m + 1 := ⟨k - 1, by omega⟩
      simp only [spec_l08Row.l0]
      rw [if_neg (by omega)]
      exact ⟨_, _, _, rfl, by omega, hi⟩
    | succ d ih =>
      intro j acc i h k hj ha hi hk
      obtain ⟨k, rfl⟩ : ∃ m, k = m + 1 := ⟨k - 1, by omega⟩
      simp only [spec_l08Row.l0]
      obtain ⟨t, i', h', e, hi'⟩ := once_ok h 2 hi (by omega) (by omega)
      rw [if_pos (by omega), e, Option.bind_some, if_pos (by omega), w64s j (by omega)]
      exact ih (j + 1) _ _ _ k (by omega) (by simp; omega) hi' (by omega)
  intro k hk
  unfold spec_l08Row.f
  exact H n 0 [] i h k (by omega) rfl hi hk
theorem drawCase_ok (b : List Int) (hb : b.length ≤ 1099511627776) : ∀ k, b.length + 8300 < k → ∃ r n l, spec_DrawCase.f k b = some (r, ((n : Nat) : Int), ones l) ∧ n ≤ 6 ∧ r.length = n ∧ l.length = 2 ^ n := by
  intro k hk
  unfold spec_DrawCase.f
  obtain ⟨h, e⟩ := new_ok b hb k (by omega)
  obtain ⟨n, i1, h1, e1, hn0, hn1, hi1⟩ := below_ok h 7 (st_zero hb) (by omega) (by omega)
  obtain ⟨n, rfl⟩ := Int.eq_ofNat_of_zero_le hn0
  obtain ⟨r, i2, h2, e2, hr, hi2⟩ := row_ok n (by omega) h1 hi1 k (by omega)
  obtain ⟨l, i3, h3, e3, hl, _⟩ := table_ok n (by omega) h2 hi2 k (by omega)
  rw [e, Option.bind_some, e1, Option.bind_some, e2, Option.bind_some, e3, Option.bind_some]
  exact ⟨_, _, _, rfl, by omega, hr, hl⟩
end Go.Proofs.Ythipjoioicmcnaa.Pure
/- Tables put together value by value, the program's and the reference's. Conditions: each lemma's own hypotheses. -/
set_option linter.unusedSimpArgs false
set_option linter.unusedVariables false
namespace Go.Proofs.Ythipjoioicmcnaa.Pure
open Go.RowKit Go.Proofs.Ythipjoioicmcnaa.G Go.Proofs.YthipjoioicmcnaaW.PrintWords Go.Proofs.YthipjoioicmcnaaW.PrintLast Go.Proofs.YthipjoioicmcnaaW.PrintMore

/-- The flags of a table's values. -/
def flags (s : ByteArray) : List Bool := s.data.toList.map fun c => c == 49
theorem flags_ones (l : List Bool) : flags (ones l) = l := by
  unfold flags
  simp only [ones, List.map_map]
  exact (List.map_congr_left (fun b _ => by cases b <;> rfl)).trans (List.map_id l)
theorem each_eq (N : Int) (s : ByteArray) (p : Int → Option Bool) (g : Nat → Bool) (hs : s.size ≤ 1099511627776) (hp : ∀ i : Nat, i < s.size → p (i : Int) = some (g i)) : ∀ k, s.size < k → impl_Table_each.f k N s p = some (N, ones ((List.range s.size).map g)) := by
  intro k hk
  unfold impl_Table_each.f
  rw [if_pos (by omega), if_pos (by omega), Option.bind_some, Int.toNat_natCast, List.length_replicate, ← strOfNums_ones]
  have hpl : (((List.range s.size).map g).map sgn).length = (List.replicate s.size (0 : Int)).length := by simp
  have h := rounds (fun k i => impl_Table_each.l0 p k ((((List.range s.size).map g).map sgn).take i ++ (List.replicate s.size (0 : Int)).drop i) (s.size : Int) (i : Int) N s) s.size (N, strOfNums (((List.range s.size).map g).map sgn)) ?_ ?_ k hk
  · simpa using h
  · intro k i hi
    have hs2 : impl_sign.f (if g i then 1 else 0) = some (sgn (g i)) := by cases g i <;> decide +kernel
    have hb : impl_bit.f (g i) = some (if g i then 1 else 0) := by cases g i <;> rfl
    simp only [impl_Table_each.l0]
    rw [if_pos (by omega), hp i hi, Option.bind_some, hb, Option.bind_some, hs2, Option.bind_some, if_pos (by omega), if_pos (by simp; omega), w64s i (by omega), Int.toNat_natCast, set_front _ (List.replicate s.size (0 : Int)) i (sgn (g i)) hpl (by simpa using hi) (by simp [hi])]
  · intro k
    simp only [impl_Table_each.l0]
    rw [if_neg (by omega), List.take_of_length_le (by simp)]
    simp
/-- The table of what is not. -/
def notT (N : Int) (s : ByteArray) : Int × ByteArray := if tok N s then (N, ones ((flags s).map not)) else (0, ⟨#[]⟩)
theorem range_getD (l : List Bool) (f : Bool → Bool) : (List.range l.length).map (fun i => f (l.getD i false)) = l.map f := by
  apply List.ext_getElem
  · simp
  · intro i h1 h2
    simp only [List.getElem_map, List.getElem_range]
    rw [getD_lt l i false (by simpa using h1)]
/-- Two tables put together, value by value. -/
def bothT (f : Bool → Bool → Bool) (N : Int) (s : ByteArray) (M : Int) (t : ByteArray) : Int × ByteArray × Bool := if tok N s && tok M t && (N == M) then (N, ones (List.zipWith f (flags s) (flags t)), true) else (0, ⟨#[]⟩, false)
theorem range_zip (a b : List Bool) (f : Bool → Bool → Bool) (h : a.length = b.length) : (List.range a.length).map (fun i => f (a.getD i false) (b.getD i false)) = List.zipWith f a b := by
  apply List.ext_getElem
  · simp [h]
  · intro i h1 h2
    have h3 : i < a.length := by simpa using h1
    simp only [List.getElem_map, List.getElem_range, List.getElem_zipWith]
    rw [getD_lt a i false h3, getD_lt b i false (by omega)]
theorem same_len {n m : Nat} {a b : List Bool} (ha : a.length = 2 ^ n) (hb : b.length = 2 ^ m) (h : (n : Int) = (m : Int)) : a.length = b.length := by
  have : n = m := by omega
  rw [ha, hb, this]
end Go.Proofs.Ythipjoioicmcnaa.Pure
/- How many of a table's values are 1, and whether they are all the same. Conditions: each lemma's own hypotheses. -/
set_option linter.unusedSimpArgs false
set_option linter.unusedVariables false
namespace Go.Proofs.Ythipjoioicmcnaa.Pure
open Go.RowKit Go.Proofs.Ythipjoioicmcnaa.G Go.Proofs.YthipjoioicmcnaaW.PrintWords Go.Proofs.YthipjoioicmcnaaW.PrintLast Go.Proofs.YthipjoioicmcnaaW.PrintMore

theorem ones_data (l : List Bool) : (ones l).data.toList = l.map fun b => if b then (49 : UInt8) else 48 := by simp [ones]
theorem contains1 (l : List Bool) : (ones l).data.toList.contains 49 = l.contains true := by
  rw [ones_data]
  induction l with
  | nil => rfl
  | cons b l ih =>
    rw [List.map_cons, List.contains_cons, List.contains_cons, ih]
    congr 1
    cases b <;> rfl
theorem contains0 (l : List Bool) : (ones l).data.toList.contains 48 = l.contains false := by
  rw [ones_data]
  induction l with
  | nil => rfl
  | cons b l ih =>
    rw [List.map_cons, List.contains_cons, List.contains_cons, ih]
    congr 1
    cases b <;> rfl
theorem count1 (l : List Bool) : (ones l).data.toList.count 49 = l.count true := by
  rw [ones_data]
  induction l with
  | nil => rfl
  | cons b l ih =>
    rw [List.map_cons, List.count_cons, List.count_cons, ih]
    congr 1
    cases b <;> rfl
/-- The one value of all of a table's, or -1. -/
def knownT (N : Int) (s : ByteArray) : Int := if tok N s then (if (flags s).contains true then (if (flags s).contains false then -1 else 1) else 0) else -1
theorem all_cont (t : List Bool) (b : Bool) : (t.all fun x => x == b) = !t.contains (!b) := by
  induction t with
  | nil => rfl
  | cons x t ih =>
    rw [List.all_cons, ih, List.contains_cons]
    cases x <;> cases b <;> simp
theorem range_all_getD (t : List Bool) (b : Bool) : ((List.range t.length).all fun i => t.getD i false == b) = t.all fun x => x == b := by
  have h := congrArg (fun m : List Bool => m.all id) (range_getD t (fun x => x == b))
  simpa [List.all_map, Function.comp_def] using h
theorem impl_Table_known_eq (N : Int) (l : List Bool) : impl_Table_known.f N (ones l) = some (if l.contains true then (if l.contains false then -1 else 1) else 0) := by
  unfold impl_Table_known.f
  rw [show strings_Contains.f (ones l) ⟨#[49]⟩ = some ((ones l).data.toList.contains 49) from rfl, show strings_Contains.f (ones l) ⟨#[48]⟩ = some ((ones l).data.toList.contains 48) from rfl, contains1, contains0]
  have hb : ∀ b, impl_bit.f b = some (if b then 1 else 0) := fun b => by cases b <;> rfl
  simp only [Option.bind_some, hb]
  cases l.contains true <;> cases l.contains false <;> rfl
theorem impl_Known_eq (N : Int) (s : ByteArray) (hs : s.size ≤ 1099511627776) : ∀ k, s.size + 20 < k → impl_Known.f k N s = some (knownT N s) := by
  intro k hk
  unfold impl_Known.f knownT
  rw [impl_TableOk_eq N s hs k hk, Option.bind_some]
  cases ht : tok N s with
  | false => rfl
  | true =>
    obtain ⟨n, l, rfl, hn, hl, rfl⟩ := tok_form ht
    rw [if_pos rfl, if_pos rfl, impl_Table_known_eq, flags_ones]
    rfl
/-- How many of a table's values are 1, or -1. -/
def countT (N : Int) (s : ByteArray) : Int := if tok N s then (((flags s).count true : Nat) : Int) else -1
end Go.Proofs.Ythipjoioicmcnaa.Pure
/- Halves of tables; the value of a row of choices over a table. Conditions: each lemma's own hypotheses. -/
set_option linter.unusedSimpArgs false
set_option linter.unusedVariables false
namespace Go.Proofs.Ythipjoioicmcnaa.Pure
open Go.RowKit Go.Proofs.Ythipjoioicmcnaa.G Go.Proofs.YthipjoioicmcnaaW.PrintWords Go.Proofs.YthipjoioicmcnaaW.PrintLast Go.Proofs.YthipjoioicmcnaaW.PrintMore

theorem ones_extract (l : List Bool) (a b : Nat) : (ones l).extract a b = ones ((l.take b).drop a) := by
  apply data_inj
  rw [ByteArray.data_extract]
  simp only [ones, Array.toList_extract, List.extract_eq_take_drop, List.map_drop, List.map_take]
  rw [List.drop_take]
/-- A half of a table. -/
def halfL (l : List Bool) (h : Bool) : List Bool := if h then l.drop (l.length / 2) else l.take (l.length / 2)
theorem halfL_len {n : Nat} {l : List Bool} (hl : l.length = 2 ^ (n + 1)) (h : Bool) : (halfL l h).length = 2 ^ n := by
  rw [Nat.pow_succ] at hl
  cases h <;> simp [halfL] <;> omega
/-- The half that a number tells; none where it tells none. -/
def halfT (N : Int) (s : ByteArray) (h : Int) : Int × ByteArray × Bool := if tok N s && (N != 0) && (h == 0 || h == 1) then (N - 1, ones (halfL (flags s) (h == 1)), true) else (0, ⟨#[]⟩, false)
theorem impl_half_eq (n : Nat) (l : List Bool) (hn : n ≤ 11) (hl : l.length = 2 ^ (n + 1)) (h : Int) : impl_Table_half.f ((n + 1 : Nat) : Int) (ones l) h = some ((n : Int), ones (halfL l (h != 0))) := by
  have hp := pow12 (n := n + 1) (by omega)
  unfold impl_Table_half.f
  rw [ones_size, show ((l.length : Nat) : Int) / 2 = ((l.length / 2 : Nat) : Int) by omega, w64 (n := ((l.length / 2 : Nat) : Int)) (by omega) (by omega), w64 (n := ((n + 1 : Nat) : Int) - 1) (by omega) (by omega), show ((n + 1 : Nat) : Int) - 1 = (n : Int) by omega, Int.toNat_natCast]
  by_cases h0 : h = 0
  · rw [if_pos h0, if_pos (by omega), if_pos (by omega), ones_extract, h0]
    rfl
  · have e : (h != 0) = true := bne_iff_ne.2 h0
    rw [if_neg h0, if_pos (by omega), if_pos (by omega), ones_extract, List.take_of_length_le (by omega), e]
    rfl
/-- The value of a row of 'for all' (true) and 'there is' (false) over a table. -/
def dec : List Bool → List Bool → Bool
  | [], l => l.getD 0 false
  | a :: r, l => if a then dec r (halfL l false) && dec r (halfL l true) else dec r (halfL l false) || dec r (halfL l true)
theorem dec_const (b : Bool) : ∀ (r l : List Bool), l.length = 2 ^ r.length → l.contains (!b) = false → dec r l = b := by
  intro r
  induction r with
  | nil =>
    intro l hl hc
    match l, hl with
    | [x], _ => cases b <;> cases x <;> simp_all [dec]
  | cons a r ih =>
    intro l hl hc
    have hsub : ∀ h, (halfL l h).contains (!b) = false := by
      intro h
      rw [← Bool.not_eq_true, List.contains_iff_mem] at hc ⊢
      intro hm
      apply hc
      cases h
      · exact List.mem_of_mem_take hm
      · exact List.mem_of_mem_drop hm
    simp only [dec]
    rw [ih _ (halfL_len (by simpa using hl) false) (hsub false), ih _ (halfL_len (by simpa using hl) true) (hsub true)]
    cases a <;> cases b <;> rfl
def b01 (b : Bool) : Int := if b then 1 else 0
theorem impl_decide_eq : ∀ (r l : List Bool), r.length ≤ 12 → l.length = 2 ^ r.length → ∀ k, r.length + 1 < k → impl_decide.f k r (r.length : Int) (ones l) = some (b01 (dec r l)) := by
  intro r
  induction r with
  | nil =>
    intro l _ hl k hk
    obtain ⟨k, rfl⟩ : ∃ m, k = m + 1 := ⟨k - 1, by omega⟩
    simp only [impl_decide.f]
    match l, hl with
    | [x], _ =>
      rw [impl_Table_known_eq, Option.bind_some]
      cases x <;> rfl
  | cons a r ih =>
    intro l hr hl k hk
    obtain ⟨k, rfl⟩ : ∃ m, k = m + 1 := ⟨k - 1, by omega⟩
    simp only [List.length_cons] at hr hl hk
    simp only [impl_decide.f]
    rw [impl_Table_known_eq, Option.bind_some]
    cases h1 : l.contains true
    · rw [show (if false = true then (if l.contains false = true then (-1 : Int) else 1) else 0) = 0 from rfl, if_pos (by decide), dec_const false (a :: r) l hl (by simpa using h1)]
      rfl
    · cases h0 : l.contains false
      · rw [show (if true = true then (if false = true then (-1 : Int) else 1) else 0) = 1 from rfl, if_pos (by decide), dec_const true (a :: r) l hl (by simpa using h0)]
        rfl
      · rw [show (if true = true then (if true = true then (-1 : Int) else 1) else 0) = -1 from rfl, if_neg (by decide), List.length_cons, if_pos (by omega), impl_half_eq r.length l (by omega) hl 0, Option.bind_some, impl_half_eq r.length l (by omega) hl 1]
        simp only [Option.bind_some, List.drop_one, List.tail_cons]
        rw [ih _ (by omega) (halfL_len hl _) k (by omega), ih _ (by omega) (halfL_len hl _) k (by omega)]
        simp only [Option.bind_some]
        rw [if_pos (by omega), show rdOf false (a :: r) 0 = a from rfl]
        simp only [dec]
        have e0 : ((0 : Int) != 0) = false := rfl
        have e1 : ((1 : Int) != 0) = true := rfl
        rw [e0, e1]
        cases a <;> cases dec r (halfL l false) <;> cases dec r (halfL l true) <;> rfl
/-- What Decide tells. -/
def decT (r : List Bool) (N : Int) (s : ByteArray) : Int × Bool := if tok N s && ((r.length : Int) == N) then (b01 (dec r (flags s)), true) else (0, false)
theorem impl_Decide_eq (r : List Bool) (N : Int) (s : ByteArray) (hs : s.size ≤ 1099511627776) : ∀ k, s.size + 40 < k → impl_Decide.f k r N s = some (decT r N s) := by
  intro k hk
  unfold impl_Decide.f impl_rowed.f decT
  rw [impl_TableOk_eq N s hs k (by omega), Option.bind_some]
  cases ht : tok N s with
  | false => rfl
  | true =>
    obtain ⟨n, l, rfl, hn, hl, rfl⟩ := tok_form ht
    rw [if_pos rfl, Option.bind_some, flags_ones, Bool.true_and]
    by_cases hr : (r.length : Int) = (n : Int)
    · have hr2 : r.length = n := by omega
      subst hr2
      rw [if_pos (by simp), if_pos (by simp), impl_decide_eq r l hn hl k (by omega)]
      rfl
    · rw [if_neg (by simpa using hr), if_neg (by simpa using hr)]
/-- What Choose tells. -/
def choT (r : List Bool) (N : Int) (s : ByteArray) : Int × Bool := if tok N s && ((r.length : Int) == N) && (N != 0) then (b01 (dec (r.drop 1) (halfL (flags s) false) != dec r (flags s)), true) else (0, false)
end Go.Proofs.Ythipjoioicmcnaa.Pure
/- A table merged over one bit. Conditions: each lemma's own hypotheses. -/
set_option linter.unusedSimpArgs false
set_option linter.unusedVariables false
namespace Go.Proofs.Ythipjoioicmcnaa.Pure
open Go.RowKit Go.Proofs.Ythipjoioicmcnaa.G Go.Proofs.YthipjoioicmcnaaW.PrintWords Go.Proofs.YthipjoioicmcnaaW.PrintLast Go.Proofs.YthipjoioicmcnaaW.PrintMore

theorem shr_nat (z j : Nat) (hj : j ≤ 60) : shr .i64 (z : Int) (j : Int) = ((z / 2 ^ j : Nat) : Int) := by
  unfold shr
  rw [Int.toNat_natCast, show min j IntKind.i64.bits = j from by simp [IntKind.bits]; omega]
  norm_cast
theorem shl_nat (z j : Nat) (hj : j ≤ 60) (h : z * 2 ^ j < 4611686018427387904) : shl .i64 (z : Int) (j : Int) = ((z * 2 ^ j : Nat) : Int) := by
  unfold shl
  rw [Int.toNat_natCast, show min j IntKind.i64.bits = j from by simp [IntKind.bits]; omega, pow_cast, ← Int.natCast_mul, wraps_i64 _ (by omega) (by omega)]
/-- The place among a table's values of the merged table's place z, where the bit of weight t is 0. -/
def plcM (t z : Nat) : Nat := z / t * (2 * t) + z % t
theorem plcM_lt {t m z : Nat} (ht : 0 < t) (hz : z < t * m) : plcM t z + t < t * (2 * m) := by
  unfold plcM
  have h1 : z / t < m := by rw [Nat.div_lt_iff_lt_mul ht, Nat.mul_comm]; exact hz
  have h2 : z % t < t := Nat.mod_lt _ ht
  have h3 : (z / t + 1) * (2 * t) ≤ m * (2 * t) := Nat.mul_le_mul_right _ h1
  rw [Nat.add_mul] at h3
  have h4 : t * (2 * m) = m * (2 * t) := by rw [Nat.mul_left_comm, ← Nat.mul_assoc, Nat.mul_comm (2 * t), Nat.mul_comm 2 t] <;> rw [Nat.mul_comm]
  omega
theorem plcM_zero {t : Nat} (ht : 0 < t) (z : Nat) : plcM t z / t % 2 = 0 := by
  unfold plcM
  rw [show z / t * (2 * t) = t * (2 * (z / t)) from by rw [Nat.mul_comm, Nat.mul_assoc, Nat.mul_left_comm], Nat.mul_add_div ht, Nat.div_eq_of_lt (Nat.mod_lt _ ht)]
  omega
def mixB (a p q : Bool) : Bool := if a then p && q else p || q
/-- The merged table's values. -/
def mergeL (a : Bool) (t : Nat) (l : List Bool) : List Bool := (List.range (l.length / 2)).map fun z => mixB a (l.getD (plcM t z) false) (l.getD (plcM t z + t) false)
def mergeT (r : List Bool) (N : Int) (s : ByteArray) (v : Int) : Int × ByteArray × Bool :=
  if tok N s && ((r.length : Int) == N) && decide (0 ≤ v ∧ v ≤ N - 1) then (N - 1, ones (mergeL (r.getD v.toNat false) (2 ^ (N - 1 - v).toNat) (flags s)), true) else (0, ⟨#[]⟩, false)
theorem impl_Merge_1_eq (n v : Nat) (hn : n ≤ 12) (hv : v < n) (r l : List Bool) (hr : r.length = n) (hl : l.length = 2 ^ n) (z : Nat) (hz : z < l.length / 2) :
    impl_Merge_1.f (z : Int) ((n - 1 - v : Nat) : Int) (n : Int) (ones l) r (v : Int) = some (mixB (r.getD v false) (l.getD (plcM (2 ^ (n - 1 - v)) z) false) (l.getD (plcM (2 ^ (n - 1 - v)) z + 2 ^ (n - 1 - v)) false)) := by
  have hp := pow12 hn
  have hj12 : n - 1 - v ≤ 11 := by omega
  have h12 : 2 ^ (n - 1 - v) ≤ 2048 := Nat.le_trans (Nat.pow_le_pow_right (by decide) hj12) (by decide)
  have ht : 0 < 2 ^ (n - 1 - v) := Nat.two_pow_pos _
  have hs : 2 ^ n = 2 ^ (n - 1 - v) * (2 * 2 ^ v) := pow_split hv
  have hzl : z < 2 ^ (n - 1 - v) * 2 ^ v := by
    have e : 2 ^ (n - 1 - v) * (2 * 2 ^ v) = 2 * (2 ^ (n - 1 - v) * 2 ^ v) := by rw [Nat.mul_left_comm]
    omega
  have hq := plcM_lt ht hzl
  have hq0 := plcM_zero ht z
  generalize hJ : n - 1 - v = j at *
  have hz2 : z / 2 ^ j * 2 ^ (j + 1) + z % 2 ^ j = plcM (2 ^ j) z := by unfold plcM; rw [Nat.pow_succ, Nat.mul_comm (2 ^ j) 2]
  have hor : z / 2 ^ j * 2 ^ (j + 1) ||| z % 2 ^ j = plcM (2 ^ j) z := by
    rw [← hz2, Nat.mul_comm]
    exact (Nat.two_pow_add_eq_or_of_lt (Nat.lt_of_lt_of_le (Nat.mod_lt _ ht) (by rw [Nat.pow_succ]; omega)) _).symm
  have hor2 : plcM (2 ^ j) z ||| 2 ^ j = plcM (2 ^ j) z + 2 ^ j := or_pow _ _ hq0
  have hle : z / 2 ^ j * 2 ^ (j + 1) ≤ 4096 := by omega
  have hmod : z % 2 ^ j < 2 ^ j := Nat.mod_lt _ ht
  unfold impl_Merge_1.f impl_cut.f
  rw [if_pos (by omega), u64_of (a := (j : Int) + 1) (by omega) (by omega), if_pos (by omega), w64 (n := (j : Int)) (by omega) (by omega), u64_of (a := (j : Int)) (by omega) (by omega), if_pos (by omega), shl_eq j (by omega), pow_cast, w64 (by omega) (by omega),
    show ((2 ^ j : Nat) : Int) - 1 = ((2 ^ j - 1 : Nat) : Int) by omega, and_i64 z _ (by omega) (by omega), Nat.and_two_pow_sub_one_eq_mod, Option.bind_some, shr_nat z j (by omega), show (j : Int) + 1 = ((j + 1 : Nat) : Int) by omega, shl_nat _ _ (by omega) (by omega),
    or_i64 _ _ (by omega) (by omega), hor, or_i64 _ _ (by omega) (by omega), hor2, if_pos (by omega), if_pos (by rw [ones_size]; omega), if_pos (by omega), if_pos (by rw [ones_size]; omega), if_pos (by omega), if_pos (by omega), rdOf_nat, bt_ones _ _ (by omega), bt_ones _ _ (by omega)]
  exact (by decide : ∀ a b c : Bool, (if a = true then (if sgn b = 49 then some (sgn c == 49) else some false) else (if sgn b = 49 then some true else some (sgn c == 49))) = some (mixB a b c)) _ _ _
theorem impl_Merge_eq (r : List Bool) (N : Int) (s : ByteArray) (v : Int) (hs : s.size ≤ 1099511627776) (hv : -9223372036854775808 ≤ v ∧ v ≤ 9223372036854775807) : ∀ k, s.size + 20 < k → impl_Merge.f k r N s v = some (mergeT r N s v) := by
  intro k hk
  unfold impl_Merge.f impl_rowed.f mergeT
  rw [impl_TableOk_eq N s hs k hk, Option.bind_some]
  cases ht : tok N s with
  | false => rfl
  | true =>
    obtain ⟨n, l, rfl, hn, hl, rfl⟩ := tok_form ht
    have hp := pow12 hn
    rw [if_pos rfl, Option.bind_some]
    by_cases hr : (r.length : Int) = (n : Int)
    · have hr2 : r.length = n := by omega
      rw [if_pos (by simpa using hr), w64 (n := (n : Int) - 1) (by omega) (by omega)]
      unfold impl_within.f
      by_cases h0 : v ≥ 0
      · obtain ⟨v, rfl⟩ := Int.eq_ofNat_of_zero_le h0
        rw [if_pos h0, Option.bind_some]
        by_cases h1 : (v : Int) ≤ (n : Int) - 1
        · have hlen : 2 * (2 ^ (n - 1)) = 2 ^ n := by
            obtain ⟨m, rfl⟩ : ∃ m, n = m + 1 := ⟨n - 1, by omega⟩
            rw [Nat.pow_succ, Nat.add_sub_cancel, Nat.mul_comm]
          rw [if_pos (by simpa using h1), ones_size, show ((l.length : Nat) : Int) / 2 = ((l.length / 2 : Nat) : Int) by omega, w64 (n := ((l.length / 2 : Nat) : Int)) (by omega) (by omega), if_pos (by omega), if_pos (by omega), Int.toNat_natCast,
            w64 (n := (n : Int) - 1 - (v : Int)) (by omega) (by omega), u64_of (by omega) (by omega), show (n : Int) - 1 - (v : Int) = ((n - 1 - v : Nat) : Int) by omega]
          have hsz : ((ones l).extract 0 (l.length / 2)).size = l.length / 2 := by rw [ByteArray.size_extract, ones_size]; omega
          rw [each_eq ((n : Int) - 1) _ _ (fun z => mixB (r.getD v false) (l.getD (plcM (2 ^ (n - 1 - v)) z) false) (l.getD (plcM (2 ^ (n - 1 - v)) z + 2 ^ (n - 1 - v)) false)) (by rw [hsz]; omega) (fun i hi => impl_Merge_1_eq n v hn (by omega) r l hr2 hl i (by rw [hsz] at hi; exact hi)) k (by rw [hsz]; rw [ones_size] at hk; omega), Option.bind_some, hsz,
            if_pos (by simp [hr, h1]), flags_ones]
          rfl
        · rw [if_neg (by simpa using h1), if_neg (by simp [hr]; omega)]
      · rw [if_neg h0, Option.bind_some, if_neg (by decide), if_neg (by simp [hr]; omega)]
    · rw [if_neg (by simpa using hr), if_neg (by simp [hr])]
end Go.Proofs.Ythipjoioicmcnaa.Pure
/- Halves, merges, and on which bits a table depends. Conditions: each lemma's own hypotheses. -/
set_option linter.unusedSimpArgs false
set_option linter.unusedVariables false
namespace Go.Proofs.Ythipjoioicmcnaa.Pure
open Go.RowKit Go.Proofs.Ythipjoioicmcnaa.G Go.Proofs.YthipjoioicmcnaaW.PrintWords Go.Proofs.YthipjoioicmcnaaW.PrintLast Go.Proofs.YthipjoioicmcnaaW.PrintMore

theorem getD_take (l : List Bool) (m i : Nat) (h : i < m) : (l.take m).getD i false = l.getD i false := by
  rw [List.getD_eq_getElem?_getD, List.getD_eq_getElem?_getD, List.getElem?_take_of_lt h]
theorem getD_drop (l : List Bool) (m i : Nat) : (l.drop m).getD i false = l.getD (m + i) false := by
  rw [List.getD_eq_getElem?_getD, List.getD_eq_getElem?_getD, List.getElem?_drop]
theorem halfL_getD {l : List Bool} {H : Nat} (hl : l.length = 2 * H) (h : Bool) (i : Nat) (hi : i < H) : (halfL l h).getD i false = l.getD ((if h then H else 0) + i) false := by
  have e : l.length / 2 = H := by omega
  cases h
  · simp only [halfL, e, Bool.false_eq_true, if_false, Nat.zero_add]
    rw [getD_take l H i hi]
  · simp only [halfL, e, if_true]
    rw [getD_drop]
theorem ext_getD {a b : List Bool} (hl : a.length = b.length) (h : ∀ i, i < a.length → a.getD i false = b.getD i false) : a = b := by
  apply List.ext_getElem hl
  intro i h1 h2
  have := h i h1
  rwa [getD_lt a i false h1, getD_lt b i false h2] at this
/-- The table doesn't depend on the bit of weight t. -/
def nd (t : Nat) (l : List Bool) : Prop := ∀ q, q < l.length → q / t % 2 = 0 → l.getD q false = l.getD (q + t) false
theorem nd_of {n i : Nat} {l : List Bool} (hl : l.length = 2 ^ n) : needsB n l i = false ↔ nd (2 ^ (n - 1 - i)) l := by
  unfold needsB nd
  rw [Bool.not_eq_false', List.all_eq_true, hl]
  simp only [List.mem_range, diffAt, Bool.not_and, Bool.or_eq_true, Bool.not_eq_true', beq_eq_false_iff_ne, bne_eq_false_iff_eq]
  constructor
  · intro h q hq he
    exact (h q hq).resolve_left (by simpa using he)
  · intro h q hq
    by_cases he : q / 2 ^ (n - 1 - i) % 2 = 0
    · exact .inr (h q hq he)
    · exact .inl he
theorem nd_half {t m : Nat} {l : List Bool} (ht : 0 < t) (hl : l.length = 2 * (t * (2 * m))) (h : nd t l) (b : Bool) : nd t (halfL l b) := by
  intro q hq he
  have hlen : (halfL l b).length = t * (2 * m) := by cases b <;> simp [halfL] <;> omega
  rw [hlen] at hq
  have hq2 := half_lt ht hq he
  rw [halfL_getD hl b q hq, halfL_getD hl b (q + t) hq2]
  cases b
  · simp only [Bool.false_eq_true, if_false, Nat.zero_add]
    exact h q (by omega) he
  · simp only [if_true]
    rw [← Nat.add_assoc]
    exact h (t * (2 * m) + q) (by omega) (by rw [Nat.mul_add_div ht]; omega)
theorem plcM_far {t : Nat} (ht : 0 < t) (m z : Nat) : plcM t (t * m + z) = t * (2 * m) + plcM t z := by
  unfold plcM
  rw [Nat.mul_add_div ht, Nat.mul_add_mod, Nat.add_mul, show m * (2 * t) = t * (2 * m) from by rw [Nat.mul_left_comm, Nat.mul_left_comm t, Nat.mul_comm m t]]
  omega
theorem mergeL_half {t m : Nat} {l : List Bool} (ht : 0 < t) (hl : l.length = 2 * (t * (2 * m))) (a b : Bool) : halfL (mergeL a t l) b = mergeL a t (halfL l b) := by
  have e2 : t * (2 * m) = 2 * (t * m) := by rw [Nat.mul_left_comm]
  have hml : (mergeL a t l).length = 2 * (t * m) := by unfold mergeL; simp; omega
  have hhl : (halfL l b).length = t * (2 * m) := by cases b <;> simp [halfL] <;> omega
  apply ext_getD
  · have h1 : (halfL (mergeL a t l) b).length = t * m := by cases b <;> simp only [halfL] <;> simp [hml] <;> omega
    rw [h1]
    unfold mergeL
    simp
    omega
  · intro z hz
    have hz' : z < t * m := by
      have h1 : (halfL (mergeL a t l) b).length = t * m := by cases b <;> simp only [halfL] <;> simp [hml] <;> omega
      omega
    have hp := plcM_lt ht hz'
    rw [halfL_getD hml b z hz']
    have g : ∀ (x : List Bool) (i : Nat), i < x.length / 2 → (mergeL a t x).getD i false = mixB a (x.getD (plcM t i) false) (x.getD (plcM t i + t) false) := by
      intro x i hi
      unfold mergeL
      rw [getD_lt _ i false (by simpa using hi)]
      simp
    rw [g l _ (by cases b <;> simp <;> omega), g (halfL l b) z (by omega), halfL_getD hl b _ (by omega), halfL_getD hl b _ hp]
    cases b
    · simp
    · simp only [if_true]
      rw [plcM_far ht, Nat.add_assoc]
theorem mergeL_getD (a : Bool) (t : Nat) (x : List Bool) (i : Nat) (hi : i < x.length / 2) : (mergeL a t x).getD i false = mixB a (x.getD (plcM t i) false) (x.getD (plcM t i + t) false) := by
  unfold mergeL
  rw [getD_lt _ i false (by simpa using hi)]
  simp
theorem mergeL_len (a : Bool) (t : Nat) {n : Nat} {l : List Bool} (hl : l.length = 2 ^ (n + 1)) : (mergeL a t l).length = 2 ^ n := by
  unfold mergeL
  rw [Nat.pow_succ] at hl
  simp
  omega
/-- The last bit merged: the value stays. -/
theorem dec_last : ∀ (n : Nat) (r l : List Bool), r.length = n + 1 → l.length = 2 ^ (n + 1) → dec (r.take n) (mergeL (r.getD n false) 1 l) = dec r l := by
  intro n
  induction n with
  | zero =>
    intro r l hr hl
    match r, hr, l, hl with
    | [a], _, [x, y], _ => cases a <;> cases x <;> cases y <;> decide
  | succ n ih =>
    intro r l hr hl
    match r, hr with
    | b :: r, hr =>
      have hh : l.length = 2 * (1 * (2 * 2 ^ n)) := by rw [hl, Nat.pow_succ, Nat.pow_succ]; omega
      simp only [List.take_succ_cons, List.getD_cons_succ, dec]
      rw [mergeL_half (by decide) hh, mergeL_half (by decide) hh, ih r _ (by simpa using hr) (halfL_len hl _), ih r _ (by simpa using hr) (halfL_len hl _)]
theorem half_same {t : Nat} {l : List Bool} (ht : 0 < t) (hl : l.length = 2 * t) (h : nd t l) : halfL l true = halfL l false := by
  apply ext_getD
  · simp [halfL]; omega
  · intro i hi
    have hi' : i < t := by simp [halfL] at hi; omega
    rw [halfL_getD hl true i hi', halfL_getD hl false i hi']
    simp only [if_true, Bool.false_eq_true, if_false, Nat.zero_add]
    have := h i (by omega) (by rw [Nat.div_eq_of_lt hi'])
    rw [this, Nat.add_comm]
/-- A bit merged on which the table doesn't depend: the value stays. -/
theorem dec_idle : ∀ (j n : Nat) (r l : List Bool), j < n → r.length = n → l.length = 2 ^ n → nd (2 ^ (n - 1 - j)) l → dec (r.take j ++ r.drop (j + 1)) (mergeL (r.getD j false) (2 ^ (n - 1 - j)) l) = dec r l := by
  intro j
  induction j with
  | zero =>
    intro n r l hj hr hl h
    obtain ⟨m, rfl⟩ : ∃ m, n = m + 1 := ⟨n - 1, by omega⟩
    have ht : 0 < 2 ^ (m + 1 - 1 - 0) := Nat.two_pow_pos _
    have hl2 : l.length = 2 * 2 ^ (m + 1 - 1 - 0) := by
      rw [hl, show m + 1 - 1 - 0 = m from by omega, Nat.pow_succ]; omega
    generalize 2 ^ (m + 1 - 1 - 0) = t at *
    match r, hr with
    | a :: r, hr =>
      have hs := half_same ht hl2 h
      have e : mergeL a t l = halfL l false := by
        apply ext_getD
        · unfold mergeL halfL; simp; omega
        · intro i hi
          have hi' : i < t := by unfold mergeL at hi; simp at hi; omega
          have hp : plcM t i = i := by unfold plcM; rw [Nat.div_eq_of_lt hi', Nat.mod_eq_of_lt hi']; omega
          rw [mergeL_getD a t l i (by omega), hp, halfL_getD hl2 false i hi', ← h i (by omega) (by rw [Nat.div_eq_of_lt hi'])]
          simp only [Bool.false_eq_true, if_false, Nat.zero_add]
          cases a <;> cases l.getD i false <;> rfl
      simp only [List.take_zero, List.nil_append, Nat.zero_add, List.drop_one, List.tail_cons, List.getD_cons_zero, dec, e, hs]
      cases a <;> cases dec r (halfL l false) <;> rfl
  | succ j ih =>
    intro n r l hj hr hl h
    obtain ⟨m, rfl⟩ : ∃ m, n = m + 1 := ⟨n - 1, by omega⟩
    match r, hr with
    | b :: r, hr =>
      have ht : 0 < 2 ^ (m - 1 - j) := Nat.two_pow_pos _
      have hsp : 2 ^ m = 2 ^ (m - 1 - j) * (2 * 2 ^ j) := pow_split (by omega)
      have hh : l.length = 2 * (2 ^ (m - 1 - j) * (2 * 2 ^ j)) := by rw [hl, Nat.pow_succ, hsp, Nat.mul_comm]
      rw [show m + 1 - 1 - (j + 1) = m - 1 - j from by omega] at h ⊢
      simp only [List.take_succ_cons, List.drop_succ_cons, List.getD_cons_succ, List.cons_append, dec]
      rw [mergeL_half ht hh, mergeL_half ht hh, ih m r _ (by omega) (by simpa using hr) (halfL_len hl _) (nd_half ht hh h _), ih m r _ (by omega) (by simpa using hr) (halfL_len hl _) (nd_half ht hh h _)]
theorem needs_split (n : Nat) (l : List Bool) (m : Nat) : (needsTo false n l m).length + (needsTo true n l m).length = m := by
  induction m with
  | zero => rfl
  | succ m ih =>
    rw [needsTo_succ, needsTo_succ]
    cases needsB n l m <;> simp <;> omega
/-- What Idle tells. -/
def idleT (m : Nat) (N : Int) (s : ByteArray) : List Int := if tok N s && ((m : Int) == N) then needsTo false N.toNat (flags s) N.toNat else []
theorem impl_Idle_eq2 (r : List Bool) (N : Int) (s : ByteArray) (hs : s.size ≤ 1099511627776) : ∀ k, s.size + 50000 < k → impl_Idle.f k r N s = some (idleT r.length N s) := by
  intro k hk
  unfold impl_Idle.f impl_rowed.f idleT
  rw [Option.bind_some, impl_TableOk_eq N s hs k (by omega), Option.bind_some]
  cases ht : tok N s with
  | false => simp
  | true =>
    obtain ⟨n, l, rfl, hn, hl, rfl⟩ := tok_form ht
    by_cases hr : (r.length : Int) = (n : Int)
    · rw [if_pos rfl, Option.bind_some, if_pos (by simpa using hr), if_pos (by simpa using hr), flags_ones, Int.toNat_natCast]
      have h := rounds_ 5000 (fun k i => impl_Idle.l0 k (needsTo false n l i) (n : Int) (i : Int) (n : Int) (ones l)) n (needsTo false n l n) ?_ ?_ k (by omega)
      · exact h
      · intro k i hk hi
        have hx := needsTo_len false n l i
        simp only [impl_Idle.l0]
        rw [if_pos (by omega), impl_Table_needs_eq n l hn hl i hi k (by omega), Option.bind_some, needsTo_succ, w64s i (by omega)]
        cases hb : needsB n l i
        · rw [if_neg (by decide), if_pos (by omega), if_pos (by decide)]
        · rw [if_pos rfl, if_neg (by decide)]
      · intro k hk
        simp only [impl_Idle.l0]
        rw [if_neg (by omega)]
    · rw [if_pos rfl, Option.bind_some, if_neg (by simpa using hr), if_neg (by simpa using hr)]
/-! which bits count, and whether a table's values are all the same -/
theorem needs_none : ∀ (n : Nat) (l : List Bool), l.length = 2 ^ n → (∀ j, j < n → nd (2 ^ (n - 1 - j)) l) → l.contains true = false ∨ l.contains false = false := by
  intro n
  induction n with
  | zero =>
    intro l hl _
    match l, hl with
    | [x], _ => cases x <;> decide
  | succ n ih =>
    intro l hl h
    have hl2 : l.length = 2 * 2 ^ n := by rw [hl, Nat.pow_succ, Nat.mul_comm]
    have h0 : halfL l true = halfL l false := half_same (Nat.two_pow_pos n) hl2 (by simpa using h 0 (by omega))
    have h1 := ih (halfL l false) (halfL_len hl _) (fun j hj => by
      have hh : l.length = 2 * (2 ^ (n - 1 - j) * (2 * 2 ^ j)) := by rw [hl2, pow_split hj]
      have := h (j + 1) (by omega)
      rw [show n + 1 - 1 - (j + 1) = n - 1 - j from by omega] at this
      exact nd_half (Nat.two_pow_pos _) hh this false)
    have hap : l = halfL l false ++ halfL l true := (List.take_append_drop _ l).symm
    have hc : ∀ b, l.contains b = (halfL l false).contains b := by
      intro b
      conv => lhs; rw [hap, h0]
      rw [Bool.eq_iff_iff, List.contains_iff_mem, List.contains_iff_mem, List.mem_append, or_self]
    rw [hc, hc]
    exact h1
theorem const_getD {l : List Bool} {b : Bool} (h : l.contains (!b) = false) (i : Nat) (hi : i < l.length) : l.getD i false = b := by
  rw [getD_lt l i false hi]
  by_cases e : l[i] = b
  · exact e
  · exfalso
    have hm : l[i] ∈ l := List.getElem_mem hi
    have e2 : l[i] = !b := by revert e; cases l[i] <;> cases b <;> simp
    rw [e2, ← List.contains_iff_mem, h] at hm
    cases hm
theorem const_nd {n j : Nat} {l : List Bool} {b : Bool} (hj : j < n) (hl : l.length = 2 ^ n) (h : l.contains (!b) = false) : nd (2 ^ (n - 1 - j)) l := by
  intro q hq he
  have h2 : q + 2 ^ (n - 1 - j) < l.length := by
    rw [hl, pow_split hj] at hq ⊢
    exact half_lt (Nat.two_pow_pos _) hq he
  rw [const_getD h q hq, const_getD h _ h2]
end Go.Proofs.Ythipjoioicmcnaa.Pure
/- The law of merges: a bit that doesn't count, or the last one, may be merged. Conditions: lengths fit. -/
set_option linter.unusedSimpArgs false
set_option linter.unusedVariables false
namespace Go.Proofs.Ythipjoioicmcnaa.Pure
open Go.RowKit Go.Proofs.Ythipjoioicmcnaa.G Go.Proofs.YthipjoioicmcnaaW.PrintWords Go.Proofs.YthipjoioicmcnaaW.PrintLast Go.Proofs.YthipjoioicmcnaaW.PrintMore

theorem merge_step (n : Nat) (hn : n ≤ 6) (r l : List Bool) (hr : r.length = n) (hl : l.length = 2 ^ n) (j : Nat) (hj : j < n) (hg : j = n - 1 ∨ needsB n l j = false) : dec (r.take j ++ r.drop (j + 1)) (mergeL (r.getD j false) (2 ^ (n - 1 - j)) l) = dec r l := by
  rcases hg with hg | hg
  · obtain ⟨m, rfl⟩ : ∃ m, n = m + 1 := ⟨n - 1, by omega⟩
    obtain rfl : j = m := by omega
    rw [List.drop_of_length_le (by omega), List.append_nil, show j + 1 - 1 - j = 0 from by omega, Nat.pow_zero]
    exact dec_last j r l hr hl
  · exact dec_idle j n r l hj hr hl ((nd_of hl).1 hg)
theorem laws_FnMerge_l0_eq (n : Nat) (hn : n ≤ 6) (r l : List Bool) (hr : r.length = n) (hl : l.length = 2 ^ n) (xs : List Int) (hx : xs.length ≤ 100) (hxs : ∀ x ∈ xs, ∃ j : Nat, x = (j : Int) ∧ j < n ∧ (j = n - 1 ∨ needsB n l j = false)) : ∀ k, xs.length + 10000 < k →
    laws_FnMerge.l0 k r (b01 (dec r l)) xs 0 (n : Int) (ones l) = some true := by
  have hp : 2 ^ n ≤ 2 ^ 6 := Nat.pow_le_pow_right (by decide) hn
  refine rounds_ 10000 (fun k i => laws_FnMerge.l0 k r (b01 (dec r l)) xs (i : Int) (n : Int) (ones l)) xs.length true ?_ ?_
  · intro k i hk hi
    obtain ⟨j, hj, hjn, hg⟩ := hxs (xs.getD i 0) (by rw [getD_lt xs i 0 hi]; exact List.getElem_mem hi)
    obtain ⟨m, rfl⟩ : ∃ m, n = m + 1 := ⟨n - 1, by omega⟩
    have hM := mergeL_len (r.getD j false) (2 ^ (m + 1 - 1 - j)) hl
    have hp12 := pow12 (n := m) (by omega)
    simp only [laws_FnMerge.l0]
    rw [if_pos (by omega), if_pos (by omega), rd_nat, hj]
    have e1 : mergeT r ((m + 1 : Nat) : Int) (ones l) (j : Int) = ((m : Int), ones (mergeL (r.getD j false) (2 ^ (m + 1 - 1 - j)) l), true) := by
      unfold mergeT
      rw [tok_ones (by omega) hl, flags_ones, show ((r.length : Int) == ((m + 1 : Nat) : Int)) = true from by simp; omega, if_pos (by simp; omega), show ((m + 1 : Nat) : Int) - 1 = (m : Int) by omega, Int.toNat_natCast, show ((m : Int) - (j : Int)).toNat = m + 1 - 1 - j by omega]
    rw [impl_Merge_eq r _ _ _ (by rw [ones_size]; omega) (by omega) k (by rw [ones_size]; omega), e1]
    rw [Option.bind_some, Option.bind_some, if_pos (by omega), if_pos (by omega), Option.bind_some, if_pos (by rw [List.length_nil, List.length_take]; omega), Option.bind_some, List.nil_append, w64s j (by omega), if_pos (by omega), if_pos (by omega), Option.bind_some, Int.toNat_natCast, Int.toNat_natCast, if_pos (by rw [List.length_take, List.length_drop]; omega)]
    have e2 : decT (r.take j ++ r.drop (j + 1)) (m : Int) (ones (mergeL (r.getD j false) (2 ^ (m + 1 - 1 - j)) l)) = (b01 (dec r l), true) := by
      unfold decT
      rw [tok_ones (by omega) hM, flags_ones, show (((r.take j ++ r.drop (j + 1)).length : Int) == (m : Int)) = true from by simp; omega, if_pos (by decide), merge_step (m + 1) hn r l hr hl j hjn hg]
    rw [impl_Decide_eq _ _ _ (by rw [ones_size, hM]; omega) k (by rw [ones_size, hM]; omega), e2, Option.bind_some, if_pos rfl, if_pos rfl, if_pos rfl, w64s i (by omega)]
  · intro k hk
    simp only [laws_FnMerge.l0]
    rw [if_neg (by omega)]
theorem FnMerge_pure : ∀ (l0 : List Int), (l0.length ≤ maxLen ∧ ∀ x_ ∈ l0, (Lit.int .u8 x_).wf = true) → ∃ k, laws_FnMerge.f k l0 = some true := by
  intro b _
  unfold laws_FnMerge.f laws_big.f
  by_cases hb : (b.length : Int) > 1048576
  · exact ⟨0, by rw [Option.bind_some, if_pos (by simpa using hb)]⟩
  obtain ⟨k, hk⟩ : ∃ k, b.length + 100000 < k := ⟨b.length + 100001, by omega⟩
  refine ⟨k, ?_⟩
  obtain ⟨r, n, l, e, hn, hr, hl⟩ := drawCase_ok b (by omega) k (by omega)
  have hp : 2 ^ n ≤ 2 ^ 6 := Nat.pow_le_pow_right (by decide) hn
  have ht : tok (n : Int) (ones l) = true := tok_ones (by omega) hl
  have hrn : ((r.length : Int) == (n : Int)) = true := by simp; omega
  have e1 : decT r (n : Int) (ones l) = (b01 (dec r l), true) := by
    unfold decT
    rw [ht, hrn, flags_ones]
    rfl
  have e2 : idleT r.length (n : Int) (ones l) = needsTo false n l n := by
    unfold idleT
    rw [ht, hrn, flags_ones, Int.toNat_natCast]
    rfl
  have e3 := impl_Needs_eq (n : Int) (ones l) (by rw [ones_size]; omega) k (by rw [ones_size]; omega)
  rw [if_pos ht, ones_back, Int.toNat_natCast] at e3
  have hs := needs_split n l n
  rw [Option.bind_some, if_neg (by simpa using hb), e, Option.bind_some]
  simp only
  rw [impl_Decide_eq _ _ _ (by rw [ones_size]; omega) k (by rw [ones_size]; omega), e1, Option.bind_some, impl_Idle_eq2 _ _ _ (by rw [ones_size]; omega) k (by rw [ones_size]; omega), e2, Option.bind_some, e3, Option.bind_some, w64 (by omega) (by omega), if_pos (by omega)]
  by_cases h0 : (n : Int) = 0
  · obtain rfl : n = 0 := by omega
    match r, hr, l, hl with
    | [], _, [x], _ =>
      have em : mergeT [] ((0 : Nat) : Int) (ones [x]) 0 = (0, ⟨#[]⟩, false) := by
        unfold mergeT
        rw [if_neg (by simp)]
      have ek : knownT ((0 : Nat) : Int) (ones [x]) = b01 x := by
        unfold knownT
        rw [ht, flags_ones, if_pos rfl]
        cases x <;> rfl
      rw [if_pos h0, impl_Merge_eq _ _ _ _ (by rw [ones_size]; simp) (by omega) k (by rw [ones_size]; simp; omega), em, Option.bind_some, if_neg (by decide), impl_Known_eq _ _ (by rw [ones_size]; simp) k (by rw [ones_size]; simp; omega), ek, Option.bind_some]
      cases x <;> rfl
  · rw [if_neg h0, Option.bind_some, if_pos (by simp; omega), w64 (by omega) (by omega)]
    refine laws_FnMerge_l0_eq n hn r l hr hl _ (by simp; omega) ?_ k (by simp; omega)
    intro x hx
    rcases List.mem_append.1 hx with hx | hx
    · exact ⟨n - 1, by simp at hx; omega, by omega, .inl rfl⟩
    · unfold needsTo at hx
      obtain ⟨j, hj, rfl⟩ := List.mem_map.1 hx
      obtain ⟨hj1, hj2⟩ := List.mem_filter.1 hj
      exact ⟨j, rfl, by simpa using hj1, .inr (by simpa using hj2)⟩
end Go.Proofs.Ythipjoioicmcnaa.Pure
/- What an argument of a law reads as, told by the print's kinds: a lemma for each shape of type. Conditions: none beyond the lemmas' own hypotheses. -/
namespace Go.Proofs.Ythipjoioicmcnaa.Open
open Go.Deep Go.ChangeShapes Go.WideShapes Go.RowKit Go.Proofs.YthipjoioicmcnaaW.PrintWords

/-- Whatever reads as data of type t reads by the kind d, and what is read is ok. -/
def Opens {α : Type} (P : Program) (t : TypeId) (d : Kd α) (ok : α → Prop) : Prop :=
  ∀ (H : Type) (enc : TypeId × Value → H) (w : World) (base : Nat) (spare : Nat → Bool) (held : Bool) (fuel : Nat) (cs : List Value) (x : DataW H × List MemPlace),
    DataW.trod enc P w base spare held fuel t cs = some x → ∃ a, d.K w a cs ∧ ok a

def FOpens {α : Type} (P : Program) (fs : List Field) (off : Nat) (d : Kd α) (ok : α → Prop) : Prop :=
  ∀ (H : Type) (enc : TypeId × Value → H) (w : World) (base : Nat) (spare : Nat → Bool) (held : Bool) (fuel : Nat) (cs : List Value),
    (∀ f ∈ fs, ∃ x, DataW.trod enc P w base spare held fuel f.type ((cs.drop f.offset).take (P.cellsOf f.type)) = some x) → ∃ a, d.K w a ((cs.drop off).take d.sz) ∧ ok a

theorem opens_int {P : Program} {t : TypeId} {k : IntKind} (hu : P.underlying t = some (.int k)) : Opens P t (Kd.int k) (fun a => (Lit.int k a).wf = true) := by
  intro H enc w base spare held fuel cs x h
  obtain ⟨n, rfl, _, hw⟩ := DataW.trod_int hu h
  exact ⟨n, rfl, hw⟩
theorem opens_bool {P : Program} {t : TypeId} (hu : P.underlying t = some .bool) : Opens P t Kd.bool (fun _ => True) := by
  intro H enc w base spare held fuel cs x h
  obtain ⟨n, rfl, _⟩ := DataW.trod_bool hu h
  exact ⟨n, rfl, trivial⟩
theorem opens_string {P : Program} {t : TypeId} (hu : P.underlying t = some .string) : Opens P t Kd.string (fun s => s.size ≤ maxLen) := by
  intro H enc w base spare held fuel cs x h
  obtain ⟨n, rfl, _, hw⟩ := DataW.trod_string hu h
  exact ⟨n, rfl, hw⟩
theorem list_of {α : Type} {p : Nat → α → Prop} : ∀ n, (∀ i, i < n → ∃ a, p i a) → ∃ l : List α, l.length = n ∧ ∀ i a, l[i]? = some a → p i a
  | 0, _ => ⟨[], rfl, fun i a h => by simp at h⟩
  | n + 1, h => by
    obtain ⟨l, hl, hp⟩ := list_of n (fun i hi => h i (by omega))
    obtain ⟨a, ha⟩ := h n (by omega)
    refine ⟨l ++ [a], by simp [hl], fun i b hb => ?_⟩
    rw [List.getElem?_append] at hb
    split at hb
    · exact hp i b hb
    · rename_i hi
      have e : i = n := by
        rcases Nat.lt_or_ge (i - l.length) 1 with h1 | h1
        · omega
        · rw [List.getElem?_eq_none (by simpa using h1)] at hb
          cases hb
      subst e
      rw [hl, Nat.sub_self] at hb
      cases hb
      exact ha
theorem opens_slice {α : Type} {P : Program} {t e : TypeId} {d : Kd α} {ok : α → Prop} (hu : P.underlying t = some (.slice e)) (hc : P.cellsOf e = d.sz) (h : Opens P e d ok) :
    Opens P t (Kd.slice e d) (fun l => l.length ≤ maxLen ∧ ∀ x ∈ l, ok x) := by
  intro H enc w base spare held fuel cs x hx
  rcases open_slice hu hx with ⟨rfl, rfl⟩ | ⟨a, len, cap, m, n, D, Pl, rfl, hb, hl, hm, hmm, rfl, hel⟩
  · exact ⟨[], ⟨none, 0, rfl, Nat.le_refl _, rfl, by simp, fun h => absurd h (by simp)⟩, by simp [maxLen], by simp⟩
  · have hle : len ≤ m := by rw [hmm]; split <;> omega
    have hone : ∀ i, i < len → ∃ y : α, (∃ cs', w.cells? base (a.add (i * P.cellsOf e)) (P.cellsOf e) = some cs' ∧ d.K w y cs') ∧ ok y := by
      intro i hi
      obtain ⟨cs', h1, h2⟩ := hel i (by omega)
      obtain ⟨y, hk, ho⟩ := h H enc w base spare held n cs' _ h2
      exact ⟨y, ⟨cs', h1, hk⟩, ho⟩
    obtain ⟨l, hll, hp⟩ := list_of len hone
    subst hll
    refine ⟨l, ⟨some a, cap, rfl, hl, rfl, by simp only [maxLen] at hm; omega, fun _ => ⟨a, rfl, fun j p hj => ?_⟩⟩, by omega, ?_⟩
    · obtain ⟨⟨cs', h1, hk⟩, _⟩ := hp j p hj
      refine ⟨cs', d.K_len hk, hk, fun i u hu => ?_⟩
      have hlt : i < cs'.length := by
        rcases Nat.lt_or_ge i cs'.length with h' | h'
        · exact h'
        · rw [List.getElem?_eq_none h'] at hu; cases hu
      have hlen := d.K_len hk
      obtain ⟨_, hlen2, hcell⟩ := World.cells?_some h1
      rw [hc] at hcell
      have := hcell i (by omega)
      rw [hu] at this
      rw [← Addr.add_add]
      exact this.symm ▸ rfl
    · intro x hx
      obtain ⟨i, hi, rfl⟩ := List.getElem_of_mem hx
      exact (hp i _ (List.getElem?_eq_getElem hi)).2
theorem fopens_one {α : Type} {P : Program} {f : Field} {off : Nat} {d : Kd α} {ok : α → Prop} (ho : f.offset = off) (hc : P.cellsOf f.type = d.sz) (h : Opens P f.type d ok) : FOpens P [f] off d ok := by
  intro H enc w base spare held fuel cs hx
  obtain ⟨x, hx⟩ := hx f (by simp)
  rw [ho, hc] at hx
  exact h H enc w base spare held fuel _ x hx
theorem fopens_cons {α β : Type} {P : Program} {f : Field} {fs : List Field} {off : Nat} {d : Kd α} {d' : Kd β} {ok : α → Prop} {ok' : β → Prop} (ho : f.offset = off) (hc : P.cellsOf f.type = d.sz) (h : Opens P f.type d ok)
    (hs : FOpens P fs (off + d.sz) d' ok') : FOpens P (f :: fs) off (Kd.pair d d') (fun x => ok x.1 ∧ ok' x.2) := by
  intro H enc w base spare held fuel cs hx
  obtain ⟨a, ha, hoa⟩ := fopens_one ho hc h H enc w base spare held fuel cs (fun g hg => hx g (by simp at hg; simp [hg]))
  obtain ⟨b, hb, hob⟩ := hs H enc w base spare held fuel cs (fun g hg => hx g (by simp [hg]))
  refine ⟨(a, b), ⟨_, _, ?_, ha, hb⟩, hoa, hob⟩
  show (cs.drop off).take (d.sz + d'.sz) = _
  rw [List.take_add, List.drop_drop]
theorem opens_struct {α : Type} {P : Program} {t : TypeId} {fs : Array Field} {d : Kd α} {ok : α → Prop} (hu : P.underlying t = some (.struct fs)) (hc : P.cellsOf t = d.sz) (h : FOpens P fs.toList 0 d ok) : Opens P t d ok := by
  intro H enc w base spare held fuel cs x hx
  obtain ⟨xs, n, rfl, _, hlen, hxl, hf⟩ := DataW.trod_struct hu hx
  have := h H enc w base spare held n cs (fun f hm => by
    obtain ⟨i, hi, rfl⟩ := List.getElem_of_mem hm
    have hi' : i < fs.size := by simpa using hi
    have e := hf i fs[i] (Array.getElem?_eq_getElem hi')
    rw [List.getElem?_eq_getElem (show i < xs.length by omega)] at e
    exact ⟨_, by simpa using e⟩)
  rw [List.drop_zero, List.take_of_length_le (by omega)] at this
  exact this
theorem opens_iso {α β : Type} {P : Program} {t : TypeId} {d : Kd α} {ok : α → Prop} (f : β → α) (g : α → β) (hfg : ∀ a, f (g a) = a) (h : Opens P t d ok) : Opens P t (Kd.iso d f) (fun x => ok (f x)) := by
  intro H enc w base spare held fuel cs x hx
  obtain ⟨a, ha, ho⟩ := h H enc w base spare held fuel cs x hx
  exact ⟨g a, by show d.K w (f (g a)) cs; rw [hfg]; exact ha, by show ok (f (g a)); rw [hfg]; exact ho⟩
/-- A struct's value is its cells. -/
theorem agg_of_cells {P : Program} {w : World} {r : Reach} {base : Nat} {t : TypeId} {fs : Array Field} {v : Value} {cs : List Value} (hu : P.underlying t = some (.struct fs)) (hv : Value.okWide P w r base t v) (hc : v.cells.toList = cs) : v = .agg cs.toArray := by
  obtain ⟨c, rfl, _⟩ := okWide_struct hu hv
  simp only [Value.cells] at hc
  subst hc
  simp
end Go.Proofs.Ythipjoioicmcnaa.Open
/- The statement FnMergeSaid of the law FnMerge: for every input the call returns true and its arguments read as before. Conditions: none. (Written by a program of this session: wip/gen/row.py.) -/
namespace Go.Proofs.Ythipjoioicmcnaa.fnMerge
open Go.ChangeShapes Go.WideShapes Go.ChangeAt Go.RowKit Go.Proofs.Ythipjoioicmcnaa.Open Go.Proofs.Ythipjoioicmcnaa.G Go.Proofs.YthipjoioicmcnaaW.PrintWords
open Go.ChangeMaps (open_string shut_string)
set_option linter.unusedVariables false
theorem own : ownKnob Try.prog.godebug = none := by kernel_rfl
theorem laidOut : laidOutB Try.prog = true := by kernel_rfl
set_option maxRecDepth 100000 in
theorem lifted (os : Os) (started : os.Started) (H : Type) (enc : TypeId × Value → H) :
    ReturnsInHanded {} Try.checked os 3 .any (Rows.fnMergeSpec.pre6 enc Try.prog Try.f3 Rows.fnMergeRow.domain false) (Rows.fnMergeSpec.post enc Try.prog Try.f3 false true false false) := by
  refine returnsInHanded_of_change (C := Try.checked) own started (by kernel_rfl) Try.func3
    (ChangeSpec.witness6 (enc := enc) (C := Try.checked) false ⟨#[], #[.slice none 0 0], []⟩ 8 (by kernel_rfl) (by kernel_rfl) (by kernel_rfl) (by kernel_rfl)) ?_
  intro W base args ds gs before hval0 hW hcnd _
  have hval : ∀ (j : Nat) t v, Try.f3.params[j]? = some t → args[j]? = some v → Value.okWide Try.prog W .any base t v := hval0
  have hW' := hW
  obtain ⟨p, q, hA0, hV, rfl, hfz, hnd⟩ := hW
  have hA : DataW.TrodAll enc Try.prog W 0 (fun _ => true) true Try.f3.params.toList args.toList ds p := hA0
  rw [Try.params3] at hA hval
  obtain ⟨v0, vs0, d0, ds0, p0, q0, hargs, rfl, rfl, h0, r0⟩ := trodAll_cons hA
  obtain ⟨rfl, rfl, rfl⟩ := trodAll_nil r0
  obtain rfl : args = #[v0] := by cases args; simp_all
  obtain ⟨rfl, rfl⟩ := trodVars_none hV
  have k0 := h0
  have lt0 : ∀ x ∈ p0, x.block < W.heap.size := by obtain ⟨m, hm⟩ := k0; exact DataW.trod_lt m _ _ _ hm
  obtain ⟨fu0, hf0⟩ := h0
  obtain ⟨a0, len0, cap0, rfl⟩ := okWide_slice Try.underlying22 (hval 0 22 v0 rfl rfl)
  obtain ⟨l0, hk0, ok0⟩ := (opens_slice (d := (Kd.int .u8)) Try.underlying22 (by kernel_rfl) (opens_int Try.underlying5)) _ enc W 0 _ true fu0 _ _ hf0
  obtain ⟨A0, c0, hcs0, hc0, hr0⟩ := hk0
  simp [Value.cells] at hcs0
  obtain ⟨rfl, rfl, rfl⟩ := hcs0
  clear hA0 hval0
  obtain ⟨k, hk⟩ := Pure.FnMerge_pure l0 ok0
  refine (laws_FnMerge.calls k _ _ l0 true W hr0 hc0 rfl hk).mono fun e W' ⟨he, bel0⟩ => ?_
  have bel : Below W.heap.size W W' := bel0
  subst he
  exact ⟨_, rfl, _, _, _, [], _, [], hW', trodAll_mk1 (shut_bool Try.underlying4 _), (trodAll_cons_mk (Below.trod laidOut (by kernel_rfl) (of_decide_eq_true (by kernel_rfl)) k0 bel lt0) trodAll_mk0), rfl, bel.frame _, fun h => by cases h⟩
theorem over : Rows.fnMergeRow.holds Try.pinned (OpenSpec.ofChange Rows.fnMergeSpec) :=
  OpenClaim.holds_of_wide 3 Try.f3 rfl rfl rfl rfl rfl rfl rfl ⟨rfl, rfl, rfl, rfl, rfl⟩ rfl rfl rfl rfl rfl (by kernel_rfl) Try.func3 (by kernel_rfl)
    (of_decide_eq_true (by kernel_rfl)) (by unfold Func.isWrapper; first | (rw [if_pos (by decide +kernel)]; kernel_rfl) | (rw [if_neg (by decide +kernel)]; exact ⟨rfl, rfl⟩))
    (fun os started H enc _ => lifted os started H enc)
theorem proved : Rows.FnMergeSaid := over
end Go.Proofs.Ythipjoioicmcnaa.fnMerge
namespace Go.Proofs.Ythipjoioicmcnaa
/-- The given statement. -/
theorem fnMerge_holds : Rows.FnMergeSaid := fnMerge.proved
#print axioms fnMerge_holds
end Go.Proofs.Ythipjoioicmcnaa
