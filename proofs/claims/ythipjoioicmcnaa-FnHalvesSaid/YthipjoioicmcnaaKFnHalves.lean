-- texts of this session, merged by a program of it (wip/gen/pack.py)
import Derived.Test.YthipjoioicmcnaaKFnHalves1
import Derived.Laws.BitsLemmas
import Derived.Test.YthipjoioicmcnaaKFnHalves4
import Derived.Test.YthipjoioicmcnaaKFnHalves3
import Derived.Test.YthipjoioicmcnaaKFnHalves2
import Derived.Test.YthipjoioicmcnaaKFnHalves5
import Derived.ProofKit
import Derived.WalkKit
import Derived.Deep.Slices
import Derived.OpenShut
import Derived.ChangeVars
import Derived.ChangeOld
import Derived.Below
import Derived.Test.YthipjoioicmcnaaWWords
import Derived.Test.YthipjoioicmcnaaRows
import Derived.ShutString
/- Plain lemmas about rounds, whole numbers, lists and strings, for the pure statements of this seat. Conditions: each lemma's own hypotheses. -/
set_option linter.unusedSimpArgs false
set_option linter.unusedVariables false
namespace Go.Proofs.Ythipjoioicmcnaa.Pure
open Go.RowKit Go.Proofs.YthipjoioicmcnaaW.PrintWords Go.Proofs.YthipjoioicmcnaaW.PrintLast Go.Proofs.YthipjoioicmcnaaW.PrintMore

/-- A loop that goes n rounds from state 0 on and then tells r. -/
theorem rounds {R : Type} (L : Nat → Nat → Option R) (n : Nat) (r : R) (step : ∀ k i, i < n → L (k + 1) i = L k (i + 1)) (stop : ∀ k, L (k + 1) n = some r) : ∀ k, n < k → L k 0 = some r := by
  have h : ∀ d i k, i + d = n → d < k → L k i = some r := by
    intro d
    induction d with
    | zero =>
      intro i k hi hk
      obtain ⟨k, rfl⟩ : ∃ m, k = m + 1 := ⟨k - 1, by omega⟩
      obtain rfl : i = n := by omega
      exact stop k
    | succ d ih =>
      intro i k hi hk
      obtain ⟨k, rfl⟩ : ∃ m, k = m + 1 := ⟨k - 1, by omega⟩
      rw [step k i (by omega)]
      exact ih (i + 1) k (by omega) (by omega)
  exact fun k hk => h n 0 k (by omega) hk
/-- The same where each round, and the end, asks for m rounds more (calls inside). -/
theorem rounds_ {R : Type} (m : Nat) (L : Nat → Nat → Option R) (n : Nat) (r : R) (step : ∀ k i, m ≤ k → i < n → L (k + 1) i = L k (i + 1)) (stop : ∀ k, m ≤ k → L (k + 1) n = some r) : ∀ k, n + m < k → L k 0 = some r := by
  have h : ∀ d i k, i + d = n → d + m < k → L k i = some r := by
    intro d
    induction d with
    | zero =>
      intro i k hi hk
      obtain ⟨k, rfl⟩ : ∃ m, k = m + 1 := ⟨k - 1, by omega⟩
      obtain rfl : i = n := by omega
      exact stop k (by omega)
    | succ d ih =>
      intro i k hi hk
      obtain ⟨k, rfl⟩ : ∃ m, k = m + 1 := ⟨k - 1, by omega⟩
      rw [step k i (by omega) (by omega)]
      exact ih (i + 1) k (by omega) (by omega)
  exact fun k hk => h n 0 k (by omega) hk
/-- A loop that goes on while p holds: where it ends, and with how many rounds left. -/
theorem rounds_to {R : Type} (L : Nat → Nat → R) (n : Nat) (p : Nat → Bool) (S E : Nat → R) (step : ∀ k i, i < n → (∀ j, j < i → p j = true) → p i = true → L (k + 1) i = L k (i + 1))
    (exit : ∀ k i, i < n → (∀ j, j < i → p j = true) → p i = false → L (k + 1) i = E k) (stop : ∀ k, (∀ j, j < n → p j = true) → L (k + 1) n = S k) :
    ∀ k, n < k → ∃ j, k - n - 1 ≤ j ∧ j < k ∧ L k 0 = if (List.range n).all p then S j else E j := by
  have h : ∀ d i k, i + d = n → d < k → (∀ j, j < i → p j = true) → ∃ j, k - d - 1 ≤ j ∧ j < k ∧ L k i = if (List.range n).all p then S j else E j := by
    intro d
    induction d with
    | zero =>
      intro i k hi hk hp
      obtain ⟨k, rfl⟩ : ∃ m, k = m + 1 := ⟨k - 1, by omega⟩
      obtain rfl : i = n := by omega
      refine ⟨k, by omega, by omega, ?_⟩
      rw [stop k hp, if_pos (List.all_eq_true.2 fun x hx => hp x (by simpa using hx))]
    | succ d ih =>
      intro i k hi hk hp
      obtain ⟨k, rfl⟩ : ∃ m, k = m + 1 := ⟨k - 1, by omega⟩
      cases hpi : p i with
      | true =>
        obtain ⟨j, h1, h2, h3⟩ := ih (i + 1) k (by omega) (by omega) (fun j hj => by
          rcases Nat.eq_or_lt_of_le (Nat.lt_succ_iff.1 hj) with e | e
          · exact e ▸ hpi
          · exact hp j e)
        exact ⟨j, by omega, by omega, (step k i (by omega) hp hpi).trans h3⟩
      | false =>
        refine ⟨k, by omega, by omega, ?_⟩
        rw [exit k i (by omega) hp hpi, if_neg (fun ha => by have := List.all_eq_true.1 ha i (by simp; omega); rw [hpi] at this; cases this)]
  exact fun k hk => h n 0 k (by omega) hk (fun j hj => absurd hj (by omega))
/-- A search that ends with one of two answers. -/
theorem rounds_pre {R : Type} (L : Nat → Nat → Option R) (n : Nat) (p : Nat → Bool) (r bad : R) (step : ∀ k i, i < n → (∀ j, j < i → p j = true) → p i = true → L (k + 1) i = L k (i + 1))
    (exit : ∀ k i, i < n → (∀ j, j < i → p j = true) → p i = false → L (k + 1) i = some bad) (stop : ∀ k, (∀ j, j < n → p j = true) → L (k + 1) n = some r) :
    ∀ k, n < k → L k 0 = some (if (List.range n).all p then r else bad) := by
  intro k hk
  obtain ⟨j, _, _, h⟩ := rounds_to L n p (fun _ => some r) (fun _ => some bad) step exit stop k hk
  rw [h]
  split <;> rfl
theorem w64 {n : Int} (h0 : -9223372036854775808 ≤ n) (h1 : n ≤ 9223372036854775807) : wrap64 n = n := by
  unfold wrap64
  omega
theorem w64s (i : Nat) (h : i < 4611686018427387904) : wrap64 ((i : Int) + 1) = ((i + 1 : Nat) : Int) := by
  rw [w64 (by omega) (by omega)]
  omega
theorem wfi {a : Int} (h : (Lit.int .i64 a).wf = true) : -9223372036854775808 ≤ a ∧ a ≤ 9223372036854775807 := by
  have hmin : IntKind.i64.min = -9223372036854775808 := rfl
  have hmax : IntKind.i64.max = 9223372036854775807 := rfl
  simp only [Lit.wf, Bool.and_eq_true, decide_eq_true_eq] at h
  omega
theorem u64_of {a : Int} (h0 : 0 ≤ a) (h1 : a ≤ 18446744073709551615) : IntKind.u64.wrap a = a := by
  have h : IntKind.u64.wrap a = a % 18446744073709551616 := by
    simp [IntKind.wrap, IntKind.bits, IntKind.signed]
  rw [h]
  omega

/-! lists -/
theorem rd_nat (xs : List Int) (i : Nat) : rd xs (i : Int) = xs.getD i 0 := by unfold rd; simp
theorem rdOf_nat {α : Type} (d : α) (xs : List α) (i : Nat) : rdOf d xs (i : Int) = xs.getD i d := by unfold rdOf; simp
theorem getD_lt {α : Type} (xs : List α) (i : Nat) (d : α) (h : i < xs.length) : xs.getD i d = xs[i] := by
  rw [List.getD_eq_getElem?_getD, List.getElem?_eq_getElem h]
  rfl
theorem take_succ_getD {α : Type} (xs : List α) (i : Nat) (d : α) (h : i < xs.length) : xs.take (i + 1) = xs.take i ++ [xs.getD i d] := by
  rw [List.take_succ_eq_append_getElem h, getD_lt xs i d h]
/-- What is written from the front on. -/
theorem set_front {α : Type} (p l : List α) (i : Nat) (v : α) (hl : p.length = l.length) (h : i < l.length) (hv : p[i]? = some v) : (p.take i ++ l.drop i).set i v = p.take (i + 1) ++ l.drop (i + 1) := by
  apply List.ext_getElem?
  intro j
  by_cases hj : j = i
  · subst hj
    rw [List.getElem?_set_self (by simp; omega), List.getElem?_append_left (by simp; omega), List.getElem?_take_of_lt (by omega), hv]
  · rw [List.getElem?_set_ne (by omega)]
    rcases Nat.lt_or_ge j i with h1 | h1
    · rw [List.getElem?_append_left (by simp; omega), List.getElem?_append_left (by simp; omega), List.getElem?_take_of_lt (by omega), List.getElem?_take_of_lt (by omega)]
    · rw [List.getElem?_append_right (by simp; omega), List.getElem?_append_right (by simp; omega)]
      simp only [List.length_take, List.getElem?_drop]
      congr 1
      omega

/-! strings -/
theorem bt_nat (s : ByteArray) (i : Nat) (h : i < s.size) : bt s (i : Int) = (s[i].toNat : Int) := by
  unfold bt
  simp [h]
theorem toList_data (s : ByteArray) : s.toList = s.data.toList := ByteArray.toList_eq s
end Go.Proofs.Ythipjoioicmcnaa.Pure
/- What the statements' own helpers answer (copies, comparisons, marks), as plain equations. Conditions: each lemma's own hypotheses. -/

set_option linter.unusedSimpArgs false
set_option linter.unusedVariables false
namespace Go.Proofs.Ythipjoioicmcnaa.Pure
open Go.RowKit Go.Proofs.Ythipjoioicmcnaa.G Go.Proofs.YthipjoioicmcnaaW.PrintWords Go.Proofs.YthipjoioicmcnaaW.PrintLast Go.Proofs.YthipjoioicmcnaaW.PrintMore

end Go.Proofs.Ythipjoioicmcnaa.Pure
/- Tables as lists of flags: what the program and the reference take for a right table. Conditions: each lemma's own hypotheses. -/
set_option linter.unusedSimpArgs false
set_option linter.unusedVariables false
namespace Go.Proofs.Ythipjoioicmcnaa.Pure
open Go.RowKit Go.Proofs.Ythipjoioicmcnaa.G Go.Proofs.YthipjoioicmcnaaW.PrintWords Go.Proofs.YthipjoioicmcnaaW.PrintLast Go.Proofs.YthipjoioicmcnaaW.PrintMore

/-- A search over rounds: it ends at the first round that fails. -/
theorem rounds_all {R : Type} (L : Nat → Nat → Option R) (n : Nat) (p : Nat → Bool) (r bad : R) (step : ∀ k i, i < n → p i = true → L (k + 1) i = L k (i + 1)) (exit : ∀ k i, i < n → p i = false → L (k + 1) i = some bad)
    (stop : ∀ k, L (k + 1) n = some r) : ∀ k, n < k → L k 0 = some (if (List.range n).all p then r else bad) :=
  rounds_pre L n p r bad (fun k i hi _ hp => step k i hi hp) (fun k i hi _ hp => exit k i hi hp) (fun k _ => stop k)

/-! ### tables -/
def sgn (b : Bool) : Int := if b then 49 else 48
def ones (l : List Bool) : ByteArray := ⟨(l.map fun b => if b then (49 : UInt8) else 48).toArray⟩
theorem ones_size (l : List Bool) : (ones l).size = l.length := by
  show (l.map fun b => if b then (49 : UInt8) else 48).toArray.size = _
  simp
theorem bt_ones (l : List Bool) (i : Nat) (h : i < l.length) : bt (ones l) (i : Int) = sgn (l.getD i false) := by
  have hs : i < (ones l).size := by rw [ones_size]; exact h
  rw [bt_nat _ i hs, getD_lt l i false h]
  have e : (ones l)[i] = if l[i] then (49 : UInt8) else 48 := by
    have h1 : (ones l).data.toList[i]? = some (ones l)[i] := by
      rw [List.getElem?_eq_getElem (by simpa using hs)]
      rfl
    have h2 : (ones l).data.toList[i]? = some (if l[i] then (49 : UInt8) else 48) := by simp [ones, h]
    exact Option.some.inj (h1.symm.trans h2)
  rw [e]
  unfold sgn
  cases l[i] <;> rfl
theorem ones_inj {a b : List Bool} (h : ones a = ones b) : a = b := by
  unfold ones at h
  injection h with h
  have h2 : (a.map fun b => if b then (49 : UInt8) else 48) = b.map fun b => if b then (49 : UInt8) else 48 := by simpa using congrArg Array.toList h
  exact List.map_inj_right (fun x y hxy => by revert hxy; cases x <;> cases y <;> decide) |>.1 h2
theorem data_inj {a b : ByteArray} (h : a.data.toList = b.data.toList) : a = b := by
  cases a; cases b
  simp only [ByteArray.mk.injEq]
  exact Array.toList_inj.1 h
theorem toList_inj {a b : ByteArray} : a.toList = b.toList ↔ a = b := by
  rw [toList_data, toList_data]
  exact ⟨data_inj, fun h => h ▸ rfl⟩
theorem strOfNums_ones (l : List Bool) : strOfNums (l.map sgn) = ones l := by
  unfold strOfNums ones
  congr 2
  rw [List.map_map]
  refine List.map_congr_left fun b _ => ?_
  cases b <;> rfl
def tok (N : Int) (s : ByteArray) : Bool := decide (0 ≤ N ∧ N ≤ 12 ∧ (s.size : Int) = 2 ^ N.toNat) && (List.range s.size).all fun (i : Nat) => bt s (i : Int) == 48 || bt s (i : Int) == 49
theorem tok_form {N : Int} {s : ByteArray} (h : tok N s = true) : ∃ (n : Nat) (l : List Bool), N = (n : Int) ∧ n ≤ 12 ∧ l.length = 2 ^ n ∧ s = ones l := by
  unfold tok at h
  simp only [Bool.and_eq_true, decide_eq_true_eq] at h
  obtain ⟨⟨h0, h1, h2⟩, h3⟩ := h
  obtain ⟨n, rfl⟩ := Int.eq_ofNat_of_zero_le h0
  have h2' : s.size = 2 ^ n := by
    rw [Int.toNat_natCast] at h2
    exact_mod_cast h2
  refine ⟨n, (List.range s.size).map fun (i : Nat) => decide (bt s (i : Int) = 49), rfl, by omega, by simp [h2'], ?_⟩
  apply data_inj
  apply List.ext_getElem?
  intro i
  rcases Nat.lt_or_ge i s.size with hi | hi
  · have hb := List.all_eq_true.1 h3 i (by simpa using hi)
    have e : s.data.toList[i]? = some s[i] := by
      rw [List.getElem?_eq_getElem (by simpa using hi)]
      rfl
    rw [e]
    have hv := bt_nat s i hi
    simp only [ones, List.map_map, List.getElem?_map, List.getElem?_range hi, Option.map_some, Function.comp]
    congr 1
    simp only [Bool.or_eq_true, beq_iff_eq] at hb
    have hd : ∀ c : UInt8, ((c.toNat : Int) = 48 → c = 48) ∧ ((c.toNat : Int) = 49 → c = 49) := fun c => ⟨fun h => UInt8.toNat_inj.1 (by have : c.toNat = 48 := by omega
                                                                                                                                         rw [this]; rfl), fun h => UInt8.toNat_inj.1 (by have : c.toNat = 49 := by omega
                                                                                                                                                                                         rw [this]; rfl)⟩
    rcases hb with hb | hb
    · have hc := (hd s[i]).1 (hv ▸ hb)
      simp [hb, hc]
    · have hc := (hd s[i]).2 (hv ▸ hb)
      simp [hb, hc]
  · rw [List.getElem?_eq_none (by simpa using hi), List.getElem?_eq_none (by simp [ones]; exact hi)]
theorem tok_ones {n : Nat} {l : List Bool} (hn : n ≤ 12) (hl : l.length = 2 ^ n) : tok (n : Int) (ones l) = true := by
  unfold tok
  rw [Bool.and_eq_true]
  refine ⟨decide_eq_true ⟨by omega, by omega, ?_⟩, List.all_eq_true.2 fun i hi => ?_⟩
  · rw [ones_size, hl, Int.toNat_natCast]
    norm_cast
  · have hi' : i < l.length := by rw [ones_size] at hi; simpa using hi
    rw [bt_ones l i hi']
    unfold sgn
    cases l.getD i false <;> rfl
theorem pow12 {n : Nat} (hn : n ≤ 12) : 2 ^ n ≤ 4096 := Nat.pow_le_pow_right (by decide) hn
theorem pow62 {n : Nat} (hn : n ≤ 61) : (2 : Int) ^ n ≤ 2305843009213693952 := by
  have h : 2 ^ n ≤ 2 ^ 61 := Nat.pow_le_pow_right (by decide) hn
  have h2 : ((2 ^ n : Nat) : Int) ≤ ((2 ^ 61 : Nat) : Int) := by exact_mod_cast h
  have h3 : ((2 ^ n : Nat) : Int) = (2 : Int) ^ n := by norm_cast
  omega
theorem pow_pos_ (n : Nat) : (1 : Int) ≤ 2 ^ n := by
  have h : 1 ≤ 2 ^ n := Nat.one_le_two_pow
  have h2 : ((1 : Nat) : Int) ≤ ((2 ^ n : Nat) : Int) := by exact_mod_cast h
  have h3 : ((2 ^ n : Nat) : Int) = (2 : Int) ^ n := by norm_cast
  omega
theorem pow2_eq (n : Nat) (hn : n ≤ 60) : ∀ k, n < k → spec_l01Pow2.f k (n : Int) = some ((2 : Int) ^ n) := by
  intro k hk
  unfold spec_l01Pow2.f
  refine rounds (fun k i => spec_l01Pow2.l0 k (n : Int) ((2 : Int) ^ i) (i : Int)) n _ ?_ ?_ k hk
  · intro k i hi
    simp only [spec_l01Pow2.l0]
    have h1 := pow62 (n := i + 1) (by omega)
    have h2 := pow_pos_ i
    rw [if_pos (by omega), w64s i (by omega), show (2 : Int) * 2 ^ i = 2 ^ (i + 1) from by rw [Int.pow_succ]; omega, w64 (by have := pow_pos_ (i + 1); omega) (by omega)]
  · intro k
    simp only [spec_l01Pow2.l0]
    rw [if_neg (by omega)]
theorem spec_TableOk_eq (N : Int) (s : ByteArray) (hs : s.size ≤ 1099511627776) : ∀ k, s.size + 20 < k → spec_TableOk.f k N s = some (tok N s) := by
  intro k hk
  obtain ⟨k, rfl⟩ : ∃ m, k = m + 1 := ⟨k - 1, by omega⟩
  unfold spec_TableOk.f spec_l01In.f
  by_cases h0 : N ≥ 0
  · rw [if_pos h0]
    by_cases h1 : N ≤ 12
    · obtain ⟨n, rfl⟩ := Int.eq_ofNat_of_zero_le h0
      simp only [h1, decide_true, Option.bind_some, if_true]
      rw [pow2_eq n (by omega) (k + 1) (by omega)]
      simp only [Option.bind_some, spec_TableOk.j0]
      by_cases h2 : (s.size : Int) = 2 ^ n
      · rw [if_neg (by simp [h2])]
        have h := rounds_all (fun k i => spec_TableOk.l0 k (i : Int) (n : Int) s) s.size (fun i => bt s i == 48 || bt s i == 49) true false ?_ ?_ ?_ k (by omega)
        · refine h.trans ?_
          unfold tok
          rw [decide_eq_true (⟨h0, h1, by rw [Int.toNat_natCast]; exact h2⟩ : 0 ≤ (n : Int) ∧ (n : Int) ≤ 12 ∧ (s.size : Int) = 2 ^ (n : Int).toNat), Bool.true_and]
          congr 1
          split <;> simp_all
        · intro k i hi hp
          simp only [spec_TableOk.l0]
          simp only [Bool.or_eq_true, beq_iff_eq] at hp
          rw [if_pos (by omega), if_pos (by omega), w64s i (by omega)]
          rcases hp with hp | hp
          · rw [if_pos hp]
          · rw [if_neg (by omega), if_pos hp]
        · intro k i hi hp
          simp only [spec_TableOk.l0]
          simp only [Bool.or_eq_false_iff, beq_eq_false_iff_ne] at hp
          rw [if_pos (by omega), if_pos (by omega), if_neg hp.1, if_neg hp.2]
        · intro k
          simp only [spec_TableOk.l0]
          rw [if_neg (by omega)]
      · rw [if_pos (by simpa using h2)]
        unfold tok
        rw [decide_eq_false (by rintro ⟨_, _, h⟩; rw [Int.toNat_natCast] at h; exact h2 h), Bool.false_and]
    · simp only [h1, decide_false, Option.bind_some]
      simp only [Bool.false_eq_true, if_false, spec_TableOk.j0, if_true]
      unfold tok
      rw [decide_eq_false (by omega), Bool.false_and]
  · rw [if_neg h0]
    simp only [Option.bind_some, Bool.false_eq_true, if_false, spec_TableOk.j0, if_true]
    unfold tok
    rw [decide_eq_false (by omega), Bool.false_and]
theorem shl_eq (n : Nat) (hn : n ≤ 60) : shl .i64 1 (n : Int) = (2 : Int) ^ n := by
  unfold shl
  rw [Int.toNat_natCast, show min n IntKind.i64.bits = n from by simp [IntKind.bits]; omega, Int.one_mul, IntKind.wrap_i64]
  have h1 := pow62 (n := n) (by omega)
  have h2 := pow_pos_ n
  omega
theorem impl_TableOk_eq (N : Int) (s : ByteArray) (hs : s.size ≤ 1099511627776) : ∀ k, s.size + 20 < k → impl_TableOk.f k N s = some (tok N s) := by
  intro k hk
  obtain ⟨k, rfl⟩ : ∃ m, k = m + 1 := ⟨k - 1, by omega⟩
  unfold impl_TableOk.f impl_within.f
  by_cases h0 : N ≥ 0
  · rw [if_pos h0]
    by_cases h1 : N ≤ 12
    · obtain ⟨n, rfl⟩ := Int.eq_ofNat_of_zero_le h0
      simp only [h1, decide_true, Option.bind_some, if_true]
      rw [u64_of (by omega) (by omega), if_pos (by omega), shl_eq n (by omega)]
      simp only [impl_TableOk.j0]
      by_cases h2 : (s.size : Int) = 2 ^ n
      · rw [if_neg (by simp [h2])]
        have h := rounds_all (fun k i => impl_TableOk.l0 k (s.size : Int) (i : Int) (n : Int) s) s.size (fun i => bt s i == 48 || bt s i == 49) true false ?_ ?_ ?_ k (by omega)
        · refine h.trans ?_
          unfold tok
          rw [decide_eq_true (⟨h0, h1, by rw [Int.toNat_natCast]; exact h2⟩ : 0 ≤ (n : Int) ∧ (n : Int) ≤ 12 ∧ (s.size : Int) = 2 ^ (n : Int).toNat), Bool.true_and]
          congr 1
          split <;> simp_all
        · intro k i hi hp
          simp only [impl_TableOk.l0]
          simp only [Bool.or_eq_true, beq_iff_eq] at hp
          rw [if_pos (by omega), if_pos (by omega), if_pos (by omega), w64s i (by omega)]
          rcases hp with hp | hp
          · rw [if_pos hp]
          · rw [if_neg (by omega), if_pos hp]
        · intro k i hi hp
          simp only [impl_TableOk.l0]
          simp only [Bool.or_eq_false_iff, beq_eq_false_iff_ne] at hp
          rw [if_pos (by omega), if_pos (by omega), if_pos (by omega), if_neg hp.1, if_neg hp.2]
        · intro k
          simp only [impl_TableOk.l0]
          rw [if_neg (by omega)]
      · rw [if_pos (by simpa using h2)]
        unfold tok
        rw [decide_eq_false (by rintro ⟨_, _, h⟩; rw [Int.toNat_natCast] at h; exact h2 h), Bool.false_and]
    · simp only [h1, decide_false, Option.bind_some]
      simp only [Bool.false_eq_true, if_false, impl_TableOk.j0, if_true]
      unfold tok
      rw [decide_eq_false (by omega), Bool.false_and]
  · rw [if_neg h0]
    simp only [Option.bind_some, Bool.false_eq_true, if_false, impl_TableOk.j0, if_true]
    unfold tok
    rw [decide_eq_false (by omega), Bool.false_and]
end Go.Proofs.Ythipjoioicmcnaa.Pure
/- On which bits a table depends. Conditions: each lemma's own hypotheses. -/
set_option linter.unusedSimpArgs false
set_option linter.unusedVariables false
namespace Go.Proofs.Ythipjoioicmcnaa.Pure
open Go.RowKit Go.Proofs.Ythipjoioicmcnaa.G Go.Proofs.YthipjoioicmcnaaW.PrintWords Go.Proofs.YthipjoioicmcnaaW.PrintLast Go.Proofs.YthipjoioicmcnaaW.PrintMore

/-- Does place q's value differ from that with the bit of weight t set? -/
def diffAt (l : List Bool) (t q : Nat) : Bool := q / t % 2 == 0 && l.getD q false != l.getD (q + t) false
/-- Does the table depend on bit i? -/
def needsB (n : Nat) (l : List Bool) (i : Nat) : Bool := !((List.range (2 ^ n)).all fun q => !diffAt l (2 ^ (n - 1 - i)) q)
theorem half_lt {t m q : Nat} (ht : 0 < t) (h : q < t * (2 * m)) (he : q / t % 2 = 0) : q + t < t * (2 * m) := by
  have h1 : q / t < 2 * m := by rw [Nat.div_lt_iff_lt_mul ht, Nat.mul_comm]; exact h
  have h2 : (q + t) / t < 2 * m := by rw [Nat.add_div_right _ ht]; omega
  rw [Nat.div_lt_iff_lt_mul ht, Nat.mul_comm] at h2
  exact h2
theorem pow_split {n i : Nat} (hi : i < n) : 2 ^ n = 2 ^ (n - 1 - i) * (2 * 2 ^ i) := by
  rw [← Nat.mul_assoc, Nat.mul_comm _ 2, ← Nat.pow_succ', ← Nat.pow_add]
  congr 1
  omega
theorem and_pow (q j : Nat) : (q &&& 2 ^ j = 0) ↔ q / 2 ^ j % 2 = 0 := by
  have hb : q.testBit j = decide (q / 2 ^ j % 2 = 1) := Nat.testBit_eq_decide_div_mod_eq
  constructor
  · intro h
    have : (q &&& 2 ^ j).testBit j = false := by rw [h]; simp
    rw [Nat.testBit_and, Nat.testBit_two_pow_self, Bool.and_true, hb] at this
    simp at this
    omega
  · intro h
    apply Nat.eq_of_testBit_eq
    intro x
    rw [Nat.testBit_and, Nat.testBit_two_pow, Nat.zero_testBit]
    by_cases e : j = x
    · subst e
      rw [hb]
      simp [h]
    · simp [e]
theorem or_pow (q j : Nat) (h : q / 2 ^ j % 2 = 0) : q ||| 2 ^ j = q + 2 ^ j := by
  have hp : 0 < 2 ^ j := Nat.two_pow_pos j
  have hr : q % 2 ^ j < 2 ^ j := Nat.mod_lt _ hp
  have e1 : q = 2 ^ j * (q / 2 ^ j) + q % 2 ^ j := (Nat.div_add_mod q (2 ^ j)).symm
  have e2 : 2 ^ j * (q / 2 ^ j) = 2 ^ (j + 1) * (q / 2 ^ j / 2) := by
    rw [Nat.pow_succ, Nat.mul_assoc]
    congr 1
    omega
  have e3 : 2 ^ (j + 1) * (q / 2 ^ j / 2) + 2 ^ j = 2 ^ (j + 1) * (q / 2 ^ j / 2) ||| 2 ^ j := Nat.two_pow_add_eq_or_of_lt (by rw [Nat.pow_succ]; omega) _
  have e4 := Nat.two_pow_add_eq_or_of_lt hr (q / 2 ^ j)
  have e5 := Nat.two_pow_add_eq_or_of_lt hr (q / 2 ^ j + 1)
  rw [Nat.mul_add, Nat.mul_one] at e5
  have e6 : q + 2 ^ j = 2 ^ j * (q / 2 ^ j) + 2 ^ j + q % 2 ^ j := by omega
  rw [e6, e5, e2, e3, ← e2, Nat.or_assoc, Nat.or_comm (2 ^ j), ← Nat.or_assoc, ← e4, ← e1]
theorem wraps_i64 (n : Int) (h₀ : 0 ≤ n) (h₁ : n < 2 ^ 62) : IntKind.i64.wrap n = n := by rw [IntKind.wrap_i64]; omega
theorem and_i64 (a b : Nat) (ha : a < 2 ^ 62) (hb : b < 2 ^ 62) : Go.bits .and .i64 (a : Int) (b : Int) = ((a &&& b : Nat) : Int) := (bits_nat .i64 62 (by decide) wraps_i64 a b ha hb).1
theorem or_i64 (a b : Nat) (ha : a < 2 ^ 62) (hb : b < 2 ^ 62) : Go.bits .or .i64 (a : Int) (b : Int) = ((a ||| b : Nat) : Int) := (bits_nat .i64 62 (by decide) wraps_i64 a b ha hb).2
theorem sgn_inj {a b : Bool} : sgn a = sgn b ↔ a = b := by cases a <;> cases b <;> decide
theorem pow_cast (j : Nat) : (2 : Int) ^ j = ((2 ^ j : Nat) : Int) := by norm_cast
theorem impl_Table_needs_eq (n : Nat) (l : List Bool) (hn : n ≤ 12) (hl : l.length = 2 ^ n) (i : Nat) (hi : i < n) : ∀ k, 4096 < k → impl_Table_needs.f k (n : Int) (ones l) (i : Int) = some (needsB n l i) := by
  intro k hk
  have hp := pow12 hn
  have h12 : 2 ^ (n - 1 - i) ≤ 4096 := Nat.le_trans (Nat.pow_le_pow_right (by decide) (by omega)) hp
  have ht : 0 < 2 ^ (n - 1 - i) := Nat.two_pow_pos _
  unfold impl_Table_needs.f
  rw [w64 (n := (n : Int) - 1) (by omega) (by omega), w64 (by omega) (by omega), u64_of (by omega) (by omega), if_pos (by omega), show (n : Int) - 1 - (i : Int) = ((n - 1 - i : Nat) : Int) by omega, shl_eq _ (by omega), pow_cast, ones_size]
  generalize hT : 2 ^ (n - 1 - i) = T at *
  have hlt : ∀ q, q < l.length → q / T % 2 = 0 → q + T < l.length := by
    intro q hq he
    rw [hl, pow_split hi, hT] at hq ⊢
    exact half_lt ht hq he
  have h := rounds_all (fun k q => impl_Table_needs.l0 k (T : Int) (l.length : Int) (q : Int) (n : Int) (ones l)) l.length (fun q => !diffAt l T q) false true ?_ ?_ ?_ k (by omega)
  · refine h.trans ?_
    unfold needsB
    rw [hT, ← hl]
    cases (List.range l.length).all (fun q => !diffAt l T q) <;> rfl
  all_goals simp only [impl_Table_needs.l0]
  · intro k q hq hd
    simp only [diffAt, Bool.not_and, Bool.or_eq_true, Bool.not_eq_true', beq_eq_false_iff_ne, bne_eq_false_iff_eq] at hd
    rw [if_pos (by omega), and_i64 q T (by omega) (by omega), w64s q (by omega)]
    by_cases he : q / T % 2 = 0
    · have h2 := hlt q hq he
      have h3 := hd.resolve_left (by simpa using he)
      have ho : q ||| T = q + T := by rw [← hT] at he ⊢; exact or_pow q _ he
      rw [if_pos (by rw [← hT] at he ⊢; exact_mod_cast (and_pow q _).2 he), if_pos (by omega), if_pos (by rw [ones_size]; omega), or_i64 q T (by omega) (by omega), ho, if_pos (by omega), if_pos (by rw [ones_size]; omega), bt_ones l q hq, bt_ones l (q + T) h2, if_pos (by rw [h3])]
    · rw [if_neg (by rw [← hT] at he ⊢; intro h; exact he ((and_pow q _).1 (by exact_mod_cast h)))]
  · intro k q hq hd
    simp only [diffAt, Bool.not_eq_false', Bool.and_eq_true, beq_iff_eq, bne_iff_ne, ne_eq] at hd
    obtain ⟨he, h3⟩ := hd
    have h2 := hlt q hq he
    have ho : q ||| T = q + T := by rw [← hT] at he ⊢; exact or_pow q _ he
    rw [if_pos (by omega), and_i64 q T (by omega) (by omega), if_pos (by rw [← hT] at he ⊢; exact_mod_cast (and_pow q _).2 he), if_pos (by omega), if_pos (by rw [ones_size]; omega), or_i64 q T (by omega) (by omega), ho, if_pos (by omega), if_pos (by rw [ones_size]; omega), bt_ones l q hq, bt_ones l (q + T) h2, if_neg (fun h => h3 (sgn_inj.1 h))]
  · intro k
    rw [if_neg (by omega)]
/-- The numbers of the bits below i on which the table depends (or doesn't), ascending. -/
def needsTo (want : Bool) (n : Nat) (l : List Bool) (i : Nat) : List Int := ((List.range i).filter fun j => needsB n l j == want).map fun (j : Nat) => (j : Int)
theorem needsTo_succ (want : Bool) (n : Nat) (l : List Bool) (i : Nat) : needsTo want n l (i + 1) = if needsB n l i == want then needsTo want n l i ++ [(i : Int)] else needsTo want n l i := by
  unfold needsTo
  rw [List.range_succ, List.filter_append, List.map_append]
  by_cases h : needsB n l i == want
  · rw [if_pos h]
    simp [h]
  · rw [if_neg h]
    simp [h]
theorem needsTo_len (want : Bool) (n : Nat) (l : List Bool) (i : Nat) : (needsTo want n l i).length ≤ i := by
  unfold needsTo
  rw [List.length_map]
  exact Nat.le_trans (List.length_filter_le _ _) (by simp)
theorem ones_back (l : List Bool) : (ones l).data.toList.map (fun c => c == 49) = l := by
  simp only [ones, List.map_map]
  exact (List.map_congr_left (fun b _ => by cases b <;> rfl)).trans (List.map_id l)
theorem impl_Needs_eq (N : Int) (s : ByteArray) (hs : s.size ≤ 1099511627776) : ∀ k, s.size + 50000 < k → impl_Needs.f k N s = some (if tok N s then needsTo true N.toNat (s.data.toList.map fun c => c == 49) N.toNat else []) := by
  intro k hk
  unfold impl_Needs.f
  rw [Option.bind_some, impl_TableOk_eq N s hs k (by omega), Option.bind_some]
  cases ht : tok N s with
  | false => rfl
  | true =>
    obtain ⟨n, l, rfl, hn, hl, rfl⟩ := tok_form ht
    rw [if_pos rfl, if_pos rfl, ones_back, Int.toNat_natCast]
    have h := rounds_ 5000 (fun k i => impl_Needs.l0 k (needsTo true n l i) (n : Int) (i : Int) (n : Int) (ones l)) n (needsTo true n l n) ?_ ?_ k (by omega)
    · exact h
    · intro k i hk hi
      have hx := needsTo_len true n l i
      simp only [impl_Needs.l0]
      rw [if_pos (by omega), impl_Table_needs_eq n l hn hl i hi k (by omega), Option.bind_some, needsTo_succ, w64s i (by omega)]
      cases hb : needsB n l i
      · rw [if_neg (by decide), if_neg (by decide)]
      · rw [if_pos rfl, if_pos (by omega), if_pos (by decide)]
    · intro k hk
      simp only [impl_Needs.l0]
      rw [if_neg (by omega)]
end Go.Proofs.Ythipjoioicmcnaa.Pure
/- What the reference's draws hand out: always something, within bounds. Conditions: each lemma's own hypotheses. -/
set_option linter.unusedSimpArgs false
set_option linter.unusedVariables false
namespace Go.Proofs.Ythipjoioicmcnaa.Pure
open Go.RowKit Go.Proofs.Ythipjoioicmcnaa.G Go.Proofs.YthipjoioicmcnaaW.PrintWords Go.Proofs.YthipjoioicmcnaaW.PrintLast Go.Proofs.YthipjoioicmcnaaW.PrintMore

theorem and255 (x : Int) : 0 ≤ Go.bits .and .i64 x 255 ∧ Go.bits .and .i64 x 255 ≤ 255 := by
  simp only [Go.bits, BitVec.toNat_and]
  have h : (BitVec.ofInt IntKind.i64.bits x).toNat &&& (BitVec.ofInt IntKind.i64.bits 255).toNat ≤ 255 := Nat.le_trans Nat.and_le_right (by decide)
  rw [wraps_i64 _ (by omega) (by omega)]
  omega
/-- The place in the draw's bytes is one of theirs, or their end. -/
def stOk (b : List Int) (i : Int) : Prop := 0 ≤ i ∧ i ≤ b.length ∧ b.length ≤ 1099511627776
theorem byte_ok {b : List Int} {i : Int} (h : Int) (hi : stOk b i) : ∃ v i' h', spec_l01Byte.f b i h = some (v, i', h') ∧ 0 ≤ v ∧ v ≤ 255 ∧ stOk b i' := by
  unfold spec_l01Byte.f
  obtain ⟨h0, h1, h2⟩ := hi
  by_cases hc : i < (b.length : Int)
  · rw [if_pos hc, if_pos h0]
    exact ⟨_, _, _, rfl, (and255 _).1, (and255 _).2, by rw [w64 (by omega) (by omega)]; exact ⟨by omega, by omega, h2⟩⟩
  · rw [if_neg hc]
    exact ⟨_, _, _, rfl, (and255 _).1, (and255 _).2, h0, h1, h2⟩
theorem below_ok {b : List Int} {i : Int} (h a : Int) (hi : stOk b i) (h0 : 0 < a) (h1 : a ≤ 256) : ∃ v i' h', spec_l01Below.f b i h a = some (v, i', h') ∧ 0 ≤ v ∧ v < a ∧ stOk b i' := by
  unfold spec_l01Below.f
  obtain ⟨v, i', h', e, hv0, hv1, hi'⟩ := byte_ok h hi
  rw [if_neg (by omega), if_pos h1, e, Option.bind_some, if_neg (by omega)]
  refine ⟨_, _, _, rfl, ?_, ?_, hi'⟩
  · simp only; rw [Int.tmod_eq_emod_of_nonneg hv0]; exact Int.emod_nonneg _ (by omega)
  · simp only; rw [Int.tmod_eq_emod_of_nonneg hv0]; exact Int.emod_lt_of_pos _ h0
theorem once_ok {b : List Int} {i : Int} (h a : Int) (hi : stOk b i) (h0 : 0 < a) (h1 : a ≤ 256) : ∃ t i' h', spec_l01Once.f b i h a = some (t, i', h') ∧ stOk b i' := by
  unfold spec_l01Once.f
  obtain ⟨v, i', h', e, _, _, hi'⟩ := below_ok h a hi h0 h1
  rw [e, Option.bind_some]
  exact ⟨_, _, _, rfl, hi'⟩
theorem pickInt_ok {b : List Int} {i : Int} (h : Int) (l : List Int) (hi : stOk b i) (h0 : 0 < l.length) (h1 : l.length ≤ 256) : ∃ v i' h', spec_l01PickInt.f b i h l = some (v, i', h') ∧ v ∈ l ∧ stOk b i' := by
  unfold spec_l01PickInt.f
  obtain ⟨v, i', h', e, hv0, hv1, hi'⟩ := below_ok h (l.length : Int) hi (by omega) (by omega)
  rw [e, Option.bind_some]
  obtain ⟨n, rfl⟩ := Int.eq_ofNat_of_zero_le hv0
  rw [if_pos (by simp), if_pos (by simpa using hv1), rd_nat, getD_lt l n 0 (by omega)]
  exact ⟨_, _, _, rfl, List.getElem_mem _, hi'⟩
theorem new_ok (b : List Int) (hb : b.length ≤ 1099511627776) : ∀ k, b.length < k → ∃ h, spec_l01New.f k b = some (b, 0, h) := by
  have H : ∀ d (i : Nat) h k, i + d = b.length → d < k → ∃ h', spec_l01New.l0 k b h (i : Int) = some (b, 0, h') := by
    intro d
    induction d with
    | zero =>
      intro i h k hi hk
      obtain ⟨k, rfl⟩ : ∃ m, k = m + 1 := ⟨k - 1, by omega⟩
      simp only [spec_l01New.l0]
      rw [if_neg (by omega)]
      exact ⟨_, rfl⟩
    | succ d ih =>
      intro i h k hi hk
      obtain ⟨k, rfl⟩ : ∃ m, k = m + 1 := ⟨k - 1, by omega⟩
      simp only [spec_l01New.l0]
      rw [if_pos (by omega)]
      by_cases h4 : (i : Int) < 4000
      · rw [if_pos h4, if_pos (by omega), w64s i (by omega)]
        exact ih (i + 1) _ k (by omega) (by omega)
      · rw [if_neg h4]
        exact ⟨_, rfl⟩
  intro k hk
  exact H b.length 0 _ k (by omega) hk
theorem st_zero {b : List Int} (hb : b.length ≤ 1099511627776) : stOk b 0 := ⟨by omega, by omega, hb⟩
theorem table_fill (n : Int) (b : List Int) (i h : Int) (xs : List Int) (hx : xs.length ≤ 4096) : ∀ k, xs.length < k → spec_l06Table.l1 k n xs 0 b i h = some (n, ones (List.replicate xs.length true), i, h) := by
  intro k hk
  rw [← strOfNums_ones, List.map_replicate]
  have h1 := rounds (fun k j => spec_l06Table.l1 k n ((List.replicate xs.length (sgn true)).take j ++ xs.drop j) (j : Int) b i h) xs.length (n, strOfNums (List.replicate xs.length (sgn true)), i, h) ?_ ?_ k hk
  · simpa using h1
  · intro k j hj
    simp only [spec_l06Table.l1]
    rw [if_pos (by simp; omega), if_pos (by omega), w64s j (by omega), Int.toNat_natCast, show (49 : Int) = sgn true from rfl, set_front (List.replicate xs.length (sgn true)) xs j (sgn true) (by simp) hj (by simp [hj])]
  · intro k
    simp only [spec_l06Table.l1]
    rw [if_neg (by simp), List.take_of_length_le (by simp)]
    simp
theorem bit_sgn {v : Int} (h0 : 0 ≤ v) (h1 : v < 2) : wrap64 (48 + v) % 256 = sgn (v == 1) := by
  rcases (show v = 0 ∨ v = 1 by omega) with h | h <;> subst h <;> decide +kernel
theorem table_ok (n : Nat) (hn : n ≤ 12) {b : List Int} {i : Int} (h : Int) (hi : stOk b i) : ∀ k, 8300 < k → ∃ l i' h', spec_l06Table.f k b i h (n : Int) = some ((n : Int), ones l, i', h') ∧ l.length = 2 ^ n ∧ stOk b i' := by
  have hp := pow12 hn
  have H : ∀ d (j : Nat) (acc : List Bool) (m i h : Int) k, j + d = 2 ^ n → acc.length = j → stOk b i → d + 4100 < k → ∃ l i' h', spec_l06Table.l0 k (n : Int) (acc.map sgn) m (j : Int) b i h = some ((n : Int), ones l, i', h') ∧ l.length = 2 ^ n ∧ stOk b i' := by
    intro d
    induction d with
    | zero =>
      intro j acc m i h k hj ha hi hk
      obtain ⟨k, rfl⟩ : ∃ m, k = m + 1 := ⟨k - 1, by omega⟩
      simp only [spec_l06Table.l0]
      rw [pow2_eq n (by omega) k (by omega), Option.bind_some, if_neg (by rw [pow_cast]; omega)]
      obtain ⟨t, i', h', e, hi'⟩ := once_ok h 8 hi (by omega) (by omega)
      rw [e, Option.bind_some]
      cases t
      · rw [if_neg (by simp), strOfNums_ones]
        exact ⟨acc, _, _, rfl, by omega, hi'⟩
      · rw [if_pos rfl, table_fill _ _ _ _ _ (by simp; omega) k (by simp; omega)]
        exact ⟨_, _, _, rfl, by simp; omega, hi'⟩
    | succ d ih =>
      intro j acc m i h k hj ha hi hk
      obtain ⟨k, rfl⟩ : ∃ m, k = m + 1 := ⟨k - 1, by omega⟩
      have next : ∀ (v : Bool) (i h : Int), stOk b i → ∃ l i' h', (if (acc.map sgn).length < 140737488355328 then spec_l06Table.l0 k (n : Int) (acc.map sgn ++ [sgn v]) m (wrap64 ((j : Int) + 1)) b i h else none) = some ((n : Int), ones l, i', h') ∧ l.length = 2 ^ n ∧ stOk b i' := by
        intro v i h hi
        rw [if_pos (by simp; omega), w64s j (by omega), show acc.map sgn ++ [sgn v] = (acc ++ [v]).map sgn from by simp]
        exact ih (j + 1) (acc ++ [v]) m i h k (by omega) (by simp; omega) hi (by omega)
      simp only [spec_l06Table.l0]
      rw [pow2_eq n (by omega) k (by omega), Option.bind_some, if_pos (by rw [pow_cast]; omega)]
      obtain ⟨v, i', h', e, hv0, hv1, hi'⟩ := below_ok h 2 hi (by omega) (by omega)
      rw [e, Option.bind_some]
      simp only
      rw [bit_sgn hv0 hv1]
      by_cases h0 : m = 0
      · rw [if_pos h0]
        have hb2 : 0 ≤ Int.tmod (wrap64 (Int.tdiv (j : Int) 2)) 2 ∧ Int.tmod (wrap64 (Int.tdiv (j : Int) 2)) 2 < 2 := by
          rw [Int.tdiv_eq_ediv_of_nonneg (by omega), w64 (by omega) (by omega), Int.tmod_eq_emod_of_nonneg (by omega)]
          omega
        rw [bit_sgn hb2.1 hb2.2]
        exact next _ _ _ hi'
      · rw [if_neg h0]
        by_cases h1 : m = 1
        · rw [if_pos h1]
          obtain ⟨t, i2, h2, e2, hi2⟩ := once_ok h' 2 hi' (by omega) (by omega)
          rw [e2, Option.bind_some]
          cases t
          · rw [if_neg (by simp)]
            exact next _ _ _ hi2
          · rw [if_pos rfl, show (48 : Int) = sgn false from rfl]
            exact next _ _ _ hi2
        · rw [if_neg h1]
          exact next _ _ _ hi'
  intro k hk
  unfold spec_l06Table.f
  obtain ⟨m, i', h', e, _, _, hi'⟩ := below_ok h 4 hi (by omega) (by omega)
  rw [e, Option.bind_some]
  exact H (2 ^ n) 0 [] m i' h' k (by omega) rfl hi' (by omega)
theorem any_ok {b : List Int} {i : Int} (h : Int) (hi : stOk b i) : ∀ k, 8300 < k → ∃ N s i' h', spec_l06Any.f k b i h = some (N, s, i', h') ∧ -1 ≤ N ∧ N ≤ 13 ∧ s.size ≤ 4096 ∧ stOk b i' := by
  intro k hk
  unfold spec_l06Any.f
  obtain ⟨n, i1, h1, e1, hn0, hn1, hi1⟩ := below_ok h 6 hi (by omega) (by omega)
  obtain ⟨n, rfl⟩ := Int.eq_ofNat_of_zero_le hn0
  obtain ⟨l, i2, h2, e2, hl, hi2⟩ := table_ok n (by omega) h1 hi1 k hk
  obtain ⟨v, i3, h3, e3, _, _, hi3⟩ := below_ok h2 14 hi2 (by omega) (by omega)
  have hp := pow12 (n := n) (by omega)
  rw [e1, Option.bind_some, e2, Option.bind_some, e3, Option.bind_some]
  simp only
  by_cases h0 : v = 0
  · rw [if_pos h0]
    obtain ⟨w, i4, h4, e4, hw, hi4⟩ := pickInt_ok h3 [-1, 13, wrap64 ((n : Int) + 1)] hi3 (by simp) (by simp)
    rw [e4, Option.bind_some]
    rw [w64s n (by omega)] at hw
    simp only [List.mem_cons, List.not_mem_nil, or_false] at hw
    exact ⟨_, _, _, _, rfl, by first | omega | (simp only; omega), by first | omega | (simp only; omega), by rw [ones_size]; omega, hi4⟩
  · rw [if_neg h0]
    by_cases h1 : v = 1
    · have hpos : 0 < 2 ^ n := Nat.two_pow_pos n
      have hsz : ((ones l).extract 1 (ones l).size).size = l.length - 1 := by rw [ByteArray.size_extract, ones_size]; omega
      rw [if_pos h1, if_pos (by rw [ones_size]; omega), if_pos (by rw [hsz]; omega)]
      refine ⟨_, _, _, _, rfl, by first | omega | (simp only; omega), by first | omega | (simp only; omega), ?_, hi3⟩
      rw [ByteArray.size_append, hsz]
      show _ + 1 ≤ _
      omega
    · rw [if_neg h1]
      exact ⟨_, _, _, _, rfl, by first | omega | (simp only; omega), by first | omega | (simp only; omega), by rw [ones_size]; omega, hi3⟩
theorem drawKnown_ok (b : List Int) (hb : b.length ≤ 1099511627776) : ∀ k, b.length + 8300 < k → ∃ N s, spec_DrawKnown.f k b = some (N, s) ∧ -1 ≤ N ∧ N ≤ 13 ∧ s.size ≤ 4096 := by
  intro k hk
  unfold spec_DrawKnown.f
  obtain ⟨h, e⟩ := new_ok b hb k (by omega)
  obtain ⟨N, s, i', h', e2, h0, h1, h2, _⟩ := any_ok h (st_zero hb) k (by omega)
  rw [e, Option.bind_some, e2, Option.bind_some]
  exact ⟨_, _, rfl, h0, h1, h2⟩
end Go.Proofs.Ythipjoioicmcnaa.Pure
/- Tables put together value by value, the program's and the reference's. Conditions: each lemma's own hypotheses. -/

set_option linter.unusedSimpArgs false
set_option linter.unusedVariables false
namespace Go.Proofs.Ythipjoioicmcnaa.Pure
open Go.RowKit Go.Proofs.Ythipjoioicmcnaa.G Go.Proofs.YthipjoioicmcnaaW.PrintWords Go.Proofs.YthipjoioicmcnaaW.PrintLast Go.Proofs.YthipjoioicmcnaaW.PrintMore

/-- The flags of a table's values. -/
def flags (s : ByteArray) : List Bool := s.data.toList.map fun c => c == 49
theorem flags_ones (l : List Bool) : flags (ones l) = l := by
  unfold flags
  simp only [ones, List.map_map]
  exact (List.map_congr_left (fun b _ => by cases b <;> rfl)).trans (List.map_id l)
/-- The table of what is not. -/
def notT (N : Int) (s : ByteArray) : Int × ByteArray := if tok N s then (N, ones ((flags s).map not)) else (0, ⟨#[]⟩)
theorem range_getD (l : List Bool) (f : Bool → Bool) : (List.range l.length).map (fun i => f (l.getD i false)) = l.map f := by
  apply List.ext_getElem
  · simp
  · intro i h1 h2
    simp only [List.getElem_map, List.getElem_range]
    rw [getD_lt l i false (by simpa using h1)]
/-- Two tables put together, value by value. -/
def bothT (f : Bool → Bool → Bool) (N : Int) (s : ByteArray) (M : Int) (t : ByteArray) : Int × ByteArray × Bool := if tok N s && tok M t && (N == M) then (N, ones (List.zipWith f (flags s) (flags t)), true) else (0, ⟨#[]⟩, false)
theorem range_zip (a b : List Bool) (f : Bool → Bool → Bool) (h : a.length = b.length) : (List.range a.length).map (fun i => f (a.getD i false) (b.getD i false)) = List.zipWith f a b := by
  apply List.ext_getElem
  · simp [h]
  · intro i h1 h2
    have h3 : i < a.length := by simpa using h1
    simp only [List.getElem_map, List.getElem_range, List.getElem_zipWith]
    rw [getD_lt a i false h3, getD_lt b i false (by omega)]
theorem same_len {n m : Nat} {a b : List Bool} (ha : a.length = 2 ^ n) (hb : b.length = 2 ^ m) (h : (n : Int) = (m : Int)) : a.length = b.length := by
  have : n = m := by omega
  rw [ha, hb, this]
end Go.Proofs.Ythipjoioicmcnaa.Pure
/- How many of a table's values are 1, and whether they are all the same. Conditions: each lemma's own hypotheses. -/
set_option linter.unusedSimpArgs false
set_option linter.unusedVariables false
namespace Go.Proofs.Ythipjoioicmcnaa.Pure
open Go.RowKit Go.Proofs.Ythipjoioicmcnaa.G Go.Proofs.YthipjoioicmcnaaW.PrintWords Go.Proofs.YthipjoioicmcnaaW.PrintLast Go.Proofs.YthipjoioicmcnaaW.PrintMore

theorem ones_data (l : List Bool) : (ones l).data.toList = l.map fun b => if b then (49 : UInt8) else 48 := by simp [ones]
theorem contains1 (l : List Bool) : (ones l).data.toList.contains 49 = l.contains true := by
  rw [ones_data]
  induction l with
  | nil => rfl
  | cons b l ih =>
    rw [List.map_cons, List.contains_cons, List.contains_cons, ih]
    congr 1
    cases b <;> rfl
theorem contains0 (l : List Bool) : (ones l).data.toList.contains 48 = l.contains false := by
  rw [ones_data]
  induction l with
  | nil => rfl
  | cons b l ih =>
    rw [List.map_cons, List.contains_cons, List.contains_cons, ih]
    congr 1
    cases b <;> rfl
theorem count1 (l : List Bool) : (ones l).data.toList.count 49 = l.count true := by
  rw [ones_data]
  induction l with
  | nil => rfl
  | cons b l ih =>
    rw [List.map_cons, List.count_cons, List.count_cons, ih]
    congr 1
    cases b <;> rfl
/-- The one value of all of a table's, or -1. -/
def knownT (N : Int) (s : ByteArray) : Int := if tok N s then (if (flags s).contains true then (if (flags s).contains false then -1 else 1) else 0) else -1
theorem all_cont (t : List Bool) (b : Bool) : (t.all fun x => x == b) = !t.contains (!b) := by
  induction t with
  | nil => rfl
  | cons x t ih =>
    rw [List.all_cons, ih, List.contains_cons]
    cases x <;> cases b <;> simp
theorem range_all_getD (t : List Bool) (b : Bool) : ((List.range t.length).all fun i => t.getD i false == b) = t.all fun x => x == b := by
  have h := congrArg (fun m : List Bool => m.all id) (range_getD t (fun x => x == b))
  simpa [List.all_map, Function.comp_def] using h
theorem impl_Table_known_eq (N : Int) (l : List Bool) : impl_Table_known.f N (ones l) = some (if l.contains true then (if l.contains false then -1 else 1) else 0) := by
  unfold impl_Table_known.f
  rw [show strings_Contains.f (ones l) ⟨#[49]⟩ = some ((ones l).data.toList.contains 49) from rfl, show strings_Contains.f (ones l) ⟨#[48]⟩ = some ((ones l).data.toList.contains 48) from rfl, contains1, contains0]
  have hb : ∀ b, impl_bit.f b = some (if b then 1 else 0) := fun b => by cases b <;> rfl
  simp only [Option.bind_some, hb]
  cases l.contains true <;> cases l.contains false <;> rfl
theorem impl_Known_eq (N : Int) (s : ByteArray) (hs : s.size ≤ 1099511627776) : ∀ k, s.size + 20 < k → impl_Known.f k N s = some (knownT N s) := by
  intro k hk
  unfold impl_Known.f knownT
  rw [impl_TableOk_eq N s hs k hk, Option.bind_some]
  cases ht : tok N s with
  | false => rfl
  | true =>
    obtain ⟨n, l, rfl, hn, hl, rfl⟩ := tok_form ht
    rw [if_pos rfl, if_pos rfl, impl_Table_known_eq, flags_ones]
    rfl
/-- How many of a table's values are 1, or -1. -/
def countT (N : Int) (s : ByteArray) : Int := if tok N s then (((flags s).count true : Nat) : Int) else -1
theorem impl_TableCount_eq (N : Int) (s : ByteArray) (hs : s.size ≤ 1099511627776) : ∀ k, s.size + 20 < k → impl_TableCount.f k N s = some (countT N s) := by
  intro k hk
  unfold impl_TableCount.f countT
  rw [impl_TableOk_eq N s hs k hk, Option.bind_some]
  cases ht : tok N s with
  | false => rfl
  | true =>
    obtain ⟨n, l, rfl, hn, hl, rfl⟩ := tok_form ht
    rw [if_pos rfl, if_pos rfl, show strings_Count.f (ones l) ⟨#[49]⟩ = some (((ones l).data.toList.count 49 : Nat) : Int) from rfl, count1, flags_ones]
    rfl
end Go.Proofs.Ythipjoioicmcnaa.Pure
/- Halves of tables; the value of a row of choices over a table. Conditions: each lemma's own hypotheses. -/
set_option linter.unusedSimpArgs false
set_option linter.unusedVariables false
namespace Go.Proofs.Ythipjoioicmcnaa.Pure
open Go.RowKit Go.Proofs.Ythipjoioicmcnaa.G Go.Proofs.YthipjoioicmcnaaW.PrintWords Go.Proofs.YthipjoioicmcnaaW.PrintLast Go.Proofs.YthipjoioicmcnaaW.PrintMore

theorem ones_extract (l : List Bool) (a b : Nat) : (ones l).extract a b = ones ((l.take b).drop a) := by
  apply data_inj
  rw [ByteArray.data_extract]
  simp only [ones, Array.toList_extract, List.extract_eq_take_drop, List.map_drop, List.map_take]
  rw [List.drop_take]
/-- A half of a table. -/
def halfL (l : List Bool) (h : Bool) : List Bool := if h then l.drop (l.length / 2) else l.take (l.length / 2)
theorem halfL_len {n : Nat} {l : List Bool} (hl : l.length = 2 ^ (n + 1)) (h : Bool) : (halfL l h).length = 2 ^ n := by
  rw [Nat.pow_succ] at hl
  cases h <;> simp [halfL] <;> omega
/-- The half that a number tells; none where it tells none. -/
def halfT (N : Int) (s : ByteArray) (h : Int) : Int × ByteArray × Bool := if tok N s && (N != 0) && (h == 0 || h == 1) then (N - 1, ones (halfL (flags s) (h == 1)), true) else (0, ⟨#[]⟩, false)
theorem impl_half_eq (n : Nat) (l : List Bool) (hn : n ≤ 11) (hl : l.length = 2 ^ (n + 1)) (h : Int) : impl_Table_half.f ((n + 1 : Nat) : Int) (ones l) h = some ((n : Int), ones (halfL l (h != 0))) := by
  have hp := pow12 (n := n + 1) (by omega)
  unfold impl_Table_half.f
  rw [ones_size, show ((l.length : Nat) : Int) / 2 = ((l.length / 2 : Nat) : Int) by omega, w64 (n := ((l.length / 2 : Nat) : Int)) (by omega) (by omega), w64 (n := ((n + 1 : Nat) : Int) - 1) (by omega) (by omega), show ((n + 1 : Nat) : Int) - 1 = (n : Int) by omega, Int.toNat_natCast]
  by_cases h0 : h = 0
  · rw [if_pos h0, if_pos (by omega), if_pos (by omega), ones_extract, h0]
    rfl
  · have e : (h != 0) = true := bne_iff_ne.2 h0
    rw [if_neg h0, if_pos (by omega), if_pos (by omega), ones_extract, List.take_of_length_le (by omega), e]
    rfl
theorem impl_Half_eq (N : Int) (s : ByteArray) (h : Int) (hs : s.size ≤ 1099511627776) : ∀ k, s.size + 20 < k → impl_Half.f k N s h = some (halfT N s h) := by
  intro k hk
  unfold impl_Half.f halfT
  rw [impl_TableOk_eq N s hs k hk, Option.bind_some]
  cases ht : tok N s with
  | false => rfl
  | true =>
    obtain ⟨n, l, rfl, hn, hl, rfl⟩ := tok_form ht
    rw [if_pos rfl]
    by_cases h0 : (n : Int) = 0
    · rw [if_pos h0, h0]
      rfl
    · have e0 : ((n : Int) != 0) = true := bne_iff_ne.2 h0
      obtain ⟨m, rfl⟩ : ∃ m, n = m + 1 := ⟨n - 1, by omega⟩
      rw [if_neg h0, e0, impl_half_eq m l (by omega) hl h, flags_ones, show ((m + 1 : Nat) : Int) - 1 = (m : Int) by omega]
      by_cases h1 : h = 0
      · subst h1
        rw [if_pos rfl, Option.bind_some]
        rfl
      · rw [if_neg h1]
        by_cases h2 : h = 1
        · subst h2
          rw [if_pos rfl, Option.bind_some]
          rfl
        · rw [if_neg h2, show (h == 0 || h == 1) = false from by simp [h1, h2]]
          rfl
/-- The value of a row of 'for all' (true) and 'there is' (false) over a table. -/
def dec : List Bool → List Bool → Bool
  | [], l => l.getD 0 false
  | a :: r, l => if a then dec r (halfL l false) && dec r (halfL l true) else dec r (halfL l false) || dec r (halfL l true)
theorem dec_const (b : Bool) : ∀ (r l : List Bool), l.length = 2 ^ r.length → l.contains (!b) = false → dec r l = b := by
  intro r
  induction r with
  | nil =>
    intro l hl hc
    match l, hl with
    | [x], _ => cases b <;> cases x <;> simp_all [dec]
  | cons a r ih =>
    intro l hl hc
    have hsub : ∀ h, (halfL l h).contains (!b) = false := by
      intro h
      rw [← Bool.not_eq_true, List.contains_iff_mem] at hc ⊢
      intro hm
      apply hc
      cases h
      · exact List.mem_of_mem_take hm
      · exact List.mem_of_mem_drop hm
    simp only [dec]
    rw [ih _ (halfL_len (by simpa using hl) false) (hsub false), ih _ (halfL_len (by simpa using hl) true) (hsub true)]
    cases a <;> cases b <;> rfl
def b01 (b : Bool) : Int := if b then 1 else 0
/-- What Decide tells. -/
def decT (r : List Bool) (N : Int) (s : ByteArray) : Int × Bool := if tok N s && ((r.length : Int) == N) then (b01 (dec r (flags s)), true) else (0, false)
/-- What Choose tells. -/
def choT (r : List Bool) (N : Int) (s : ByteArray) : Int × Bool := if tok N s && ((r.length : Int) == N) && (N != 0) then (b01 (dec (r.drop 1) (halfL (flags s) false) != dec r (flags s)), true) else (0, false)
end Go.Proofs.Ythipjoioicmcnaa.Pure
/- A table merged over one bit. Conditions: each lemma's own hypotheses. -/

set_option linter.unusedSimpArgs false
set_option linter.unusedVariables false
namespace Go.Proofs.Ythipjoioicmcnaa.Pure
open Go.RowKit Go.Proofs.Ythipjoioicmcnaa.G Go.Proofs.YthipjoioicmcnaaW.PrintWords Go.Proofs.YthipjoioicmcnaaW.PrintLast Go.Proofs.YthipjoioicmcnaaW.PrintMore

theorem shr_nat (z j : Nat) (hj : j ≤ 60) : shr .i64 (z : Int) (j : Int) = ((z / 2 ^ j : Nat) : Int) := by
  unfold shr
  rw [Int.toNat_natCast, show min j IntKind.i64.bits = j from by simp [IntKind.bits]; omega]
  norm_cast
theorem shl_nat (z j : Nat) (hj : j ≤ 60) (h : z * 2 ^ j < 4611686018427387904) : shl .i64 (z : Int) (j : Int) = ((z * 2 ^ j : Nat) : Int) := by
  unfold shl
  rw [Int.toNat_natCast, show min j IntKind.i64.bits = j from by simp [IntKind.bits]; omega, pow_cast, ← Int.natCast_mul, wraps_i64 _ (by omega) (by omega)]
/-- The place among a table's values of the merged table's place z, where the bit of weight t is 0. -/
def plcM (t z : Nat) : Nat := z / t * (2 * t) + z % t
theorem plcM_lt {t m z : Nat} (ht : 0 < t) (hz : z < t * m) : plcM t z + t < t * (2 * m) := by
  unfold plcM
  have h1 : z / t < m := by rw [Nat.div_lt_iff_lt_mul ht, Nat.mul_comm]; exact hz
  have h2 : z % t < t := Nat.mod_lt _ ht
  have h3 : (z / t + 1) * (2 * t) ≤ m * (2 * t) := Nat.mul_le_mul_right _ h1
  rw [Nat.add_mul] at h3
  have h4 : t * (2 * m) = m * (2 * t) := by rw [Nat.mul_left_comm, ← Nat.mul_assoc, Nat.mul_comm (2 * t), Nat.mul_comm 2 t] <;> rw [Nat.mul_comm]
  omega
theorem plcM_zero {t : Nat} (ht : 0 < t) (z : Nat) : plcM t z / t % 2 = 0 := by
  unfold plcM
  rw [show z / t * (2 * t) = t * (2 * (z / t)) from by rw [Nat.mul_comm, Nat.mul_assoc, Nat.mul_left_comm], Nat.mul_add_div ht, Nat.div_eq_of_lt (Nat.mod_lt _ ht)]
  omega
def mixB (a p q : Bool) : Bool := if a then p && q else p || q
/-- The merged table's values. -/
def mergeL (a : Bool) (t : Nat) (l : List Bool) : List Bool := (List.range (l.length / 2)).map fun z => mixB a (l.getD (plcM t z) false) (l.getD (plcM t z + t) false)
def mergeT (r : List Bool) (N : Int) (s : ByteArray) (v : Int) : Int × ByteArray × Bool :=
  if tok N s && ((r.length : Int) == N) && decide (0 ≤ v ∧ v ≤ N - 1) then (N - 1, ones (mergeL (r.getD v.toNat false) (2 ^ (N - 1 - v).toNat) (flags s)), true) else (0, ⟨#[]⟩, false)
end Go.Proofs.Ythipjoioicmcnaa.Pure
/- Halves, merges, and on which bits a table depends. Conditions: each lemma's own hypotheses. -/

set_option linter.unusedSimpArgs false
set_option linter.unusedVariables false
namespace Go.Proofs.Ythipjoioicmcnaa.Pure
open Go.RowKit Go.Proofs.Ythipjoioicmcnaa.G Go.Proofs.YthipjoioicmcnaaW.PrintWords Go.Proofs.YthipjoioicmcnaaW.PrintLast Go.Proofs.YthipjoioicmcnaaW.PrintMore

theorem getD_take (l : List Bool) (m i : Nat) (h : i < m) : (l.take m).getD i false = l.getD i false := by
  rw [List.getD_eq_getElem?_getD, List.getD_eq_getElem?_getD, List.getElem?_take_of_lt h]
theorem getD_drop (l : List Bool) (m i : Nat) : (l.drop m).getD i false = l.getD (m + i) false := by
  rw [List.getD_eq_getElem?_getD, List.getD_eq_getElem?_getD, List.getElem?_drop]
theorem halfL_getD {l : List Bool} {H : Nat} (hl : l.length = 2 * H) (h : Bool) (i : Nat) (hi : i < H) : (halfL l h).getD i false = l.getD ((if h then H else 0) + i) false := by
  have e : l.length / 2 = H := by omega
  cases h
  · simp only [halfL, e, Bool.false_eq_true, if_false, Nat.zero_add]
    rw [getD_take l H i hi]
  · simp only [halfL, e, if_true]
    rw [getD_drop]
theorem ext_getD {a b : List Bool} (hl : a.length = b.length) (h : ∀ i, i < a.length → a.getD i false = b.getD i false) : a = b := by
  apply List.ext_getElem hl
  intro i h1 h2
  have := h i h1
  rwa [getD_lt a i false h1, getD_lt b i false h2] at this
/-- The table doesn't depend on the bit of weight t. -/
def nd (t : Nat) (l : List Bool) : Prop := ∀ q, q < l.length → q / t % 2 = 0 → l.getD q false = l.getD (q + t) false
theorem nd_of {n i : Nat} {l : List Bool} (hl : l.length = 2 ^ n) : needsB n l i = false ↔ nd (2 ^ (n - 1 - i)) l := by
  unfold needsB nd
  rw [Bool.not_eq_false', List.all_eq_true, hl]
  simp only [List.mem_range, diffAt, Bool.not_and, Bool.or_eq_true, Bool.not_eq_true', beq_eq_false_iff_ne, bne_eq_false_iff_eq]
  constructor
  · intro h q hq he
    exact (h q hq).resolve_left (by simpa using he)
  · intro h q hq
    by_cases he : q / 2 ^ (n - 1 - i) % 2 = 0
    · exact .inr (h q hq he)
    · exact .inl he
theorem nd_half {t m : Nat} {l : List Bool} (ht : 0 < t) (hl : l.length = 2 * (t * (2 * m))) (h : nd t l) (b : Bool) : nd t (halfL l b) := by
  intro q hq he
  have hlen : (halfL l b).length = t * (2 * m) := by cases b <;> simp [halfL] <;> omega
  rw [hlen] at hq
  have hq2 := half_lt ht hq he
  rw [halfL_getD hl b q hq, halfL_getD hl b (q + t) hq2]
  cases b
  · simp only [Bool.false_eq_true, if_false, Nat.zero_add]
    exact h q (by omega) he
  · simp only [if_true]
    rw [← Nat.add_assoc]
    exact h (t * (2 * m) + q) (by omega) (by rw [Nat.mul_add_div ht]; omega)
theorem plcM_far {t : Nat} (ht : 0 < t) (m z : Nat) : plcM t (t * m + z) = t * (2 * m) + plcM t z := by
  unfold plcM
  rw [Nat.mul_add_div ht, Nat.mul_add_mod, Nat.add_mul, show m * (2 * t) = t * (2 * m) from by rw [Nat.mul_left_comm, Nat.mul_left_comm t, Nat.mul_comm m t]]
  omega
theorem mergeL_half {t m : Nat} {l : List Bool} (ht : 0 < t) (hl : l.length = 2 * (t * (2 * m))) (a b : Bool) : halfL (mergeL a t l) b = mergeL a t (halfL l b) := by
  have e2 : t * (2 * m) = 2 * (t * m) := by rw [Nat.mul_left_comm]
  have hml : (mergeL a t l).length = 2 * (t * m) := by unfold mergeL; simp; omega
  have hhl : (halfL l b).length = t * (2 * m) := by cases b <;> simp [halfL] <;> omega
  apply ext_getD
  · have h1 : (halfL (mergeL a t l) b).length = t * m := by cases b <;> simp only [halfL] <;> simp [hml] <;> omega
    rw [h1]
    unfold mergeL
    simp
    omega
  · intro z hz
    have hz' : z < t * m := by
      have h1 : (halfL (mergeL a t l) b).length = t * m := by cases b <;> simp only [halfL] <;> simp [hml] <;> omega
      omega
    have hp := plcM_lt ht hz'
    rw [halfL_getD hml b z hz']
    have g : ∀ (x : List Bool) (i : Nat), i < x.length / 2 → (mergeL a t x).getD i false = mixB a (x.getD (plcM t i) false) (x.getD (plcM t i + t) false) := by
      intro x i hi
      unfold mergeL
      rw [getD_lt _ i false (by simpa using hi)]
      simp
    rw [g l _ (by cases b <;> simp <;> omega), g (halfL l b) z (by omega), halfL_getD hl b _ (by omega), halfL_getD hl b _ hp]
    cases b
    · simp
    · simp only [if_true]
      rw [plcM_far ht, Nat.add_assoc]
theorem mergeL_getD (a : Bool) (t : Nat) (x : List Bool) (i : Nat) (hi : i < x.length / 2) : (mergeL a t x).getD i false = mixB a (x.getD (plcM t i) false) (x.getD (plcM t i + t) false) := by
  unfold mergeL
  rw [getD_lt _ i false (by simpa using hi)]
  simp
theorem mergeL_len (a : Bool) (t : Nat) {n : Nat} {l : List Bool} (hl : l.length = 2 ^ (n + 1)) : (mergeL a t l).length = 2 ^ n := by
  unfold mergeL
  rw [Nat.pow_succ] at hl
  simp
  omega
/-- The last bit merged: the value stays. -/
theorem dec_last : ∀ (n : Nat) (r l : List Bool), r.length = n + 1 → l.length = 2 ^ (n + 1) → dec (r.take n) (mergeL (r.getD n false) 1 l) = dec r l := by
  intro n
  induction n with
  | zero =>
    intro r l hr hl
    match r, hr, l, hl with
    | [a], _, [x, y], _ => cases a <;> cases x <;> cases y <;> decide
  | succ n ih =>
    intro r l hr hl
    match r, hr with
    | b :: r, hr =>
      have hh : l.length = 2 * (1 * (2 * 2 ^ n)) := by rw [hl, Nat.pow_succ, Nat.pow_succ]; omega
      simp only [List.take_succ_cons, List.getD_cons_succ, dec]
      rw [mergeL_half (by decide) hh, mergeL_half (by decide) hh, ih r _ (by simpa using hr) (halfL_len hl _), ih r _ (by simpa using hr) (halfL_len hl _)]
theorem half_same {t : Nat} {l : List Bool} (ht : 0 < t) (hl : l.length = 2 * t) (h : nd t l) : halfL l true = halfL l false := by
  apply ext_getD
  · simp [halfL]; omega
  · intro i hi
    have hi' : i < t := by simp [halfL] at hi; omega
    rw [halfL_getD hl true i hi', halfL_getD hl false i hi']
    simp only [if_true, Bool.false_eq_true, if_false, Nat.zero_add]
    have := h i (by omega) (by rw [Nat.div_eq_of_lt hi'])
    rw [this, Nat.add_comm]
/-- A bit merged on which the table doesn't depend: the value stays. -/
theorem dec_idle : ∀ (j n : Nat) (r l : List Bool), j < n → r.length = n → l.length = 2 ^ n → nd (2 ^ (n - 1 - j)) l → dec (r.take j ++ r.drop (j + 1)) (mergeL (r.getD j false) (2 ^ (n - 1 - j)) l) = dec r l := by
  intro j
  induction j with
  | zero =>
    intro n r l hj hr hl h
    obtain ⟨m, rfl⟩ : ∃ m, n = m + 1 := ⟨n - 1, by omega⟩
    have ht : 0 < 2 ^ (m + 1 - 1 - 0) := Nat.two_pow_pos _
    have hl2 : l.length = 2 * 2 ^ (m + 1 - 1 - 0) := by
      rw [hl, show m + 1 - 1 - 0 = m from by omega, Nat.pow_succ]; omega
    generalize 2 ^ (m + 1 - 1 - 0) = t at *
    match r, hr with
    | a :: r, hr =>
      have hs := half_same ht hl2 h
      have e : mergeL a t l = halfL l false := by
        apply ext_getD
        · unfold mergeL halfL; simp; omega
        · intro i hi
          have hi' : i < t := by unfold mergeL at hi; simp at hi; omega
          have hp : plcM t i = i := by unfold plcM; rw [Nat.div_eq_of_lt hi', Nat.mod_eq_of_lt hi']; omega
          rw [mergeL_getD a t l i (by omega), hp, halfL_getD hl2 false i hi', ← h i (by omega) (by rw [Nat.div_eq_of_lt hi'])]
          simp only [Bool.false_eq_true, if_false, Nat.zero_add]
          cases a <;> cases l.getD i false <;> rfl
      simp only [List.take_zero, List.nil_append, Nat.zero_add, List.drop_one, List.tail_cons, List.getD_cons_zero, dec, e, hs]
      cases a <;> cases dec r (halfL l false) <;> rfl
  | succ j ih =>
    intro n r l hj hr hl h
    obtain ⟨m, rfl⟩ : ∃ m, n = m + 1 := ⟨n - 1, by omega⟩
    match r, hr with
    | b :: r, hr =>
      have ht : 0 < 2 ^ (m - 1 - j) := Nat.two_pow_pos _
      have hsp : 2 ^ m = 2 ^ (m - 1 - j) * (2 * 2 ^ j) := pow_split (by omega)
      have hh : l.length = 2 * (2 ^ (m - 1 - j) * (2 * 2 ^ j)) := by rw [hl, Nat.pow_succ, hsp, Nat.mul_comm]
      rw [show m + 1 - 1 - (j + 1) = m - 1 - j from by omega] at h ⊢
      simp only [List.take_succ_cons, List.drop_succ_cons, List.getD_cons_succ, List.cons_append, dec]
      rw [mergeL_half ht hh, mergeL_half ht hh, ih m r _ (by omega) (by simpa using hr) (halfL_len hl _) (nd_half ht hh h _), ih m r _ (by omega) (by simpa using hr) (halfL_len hl _) (nd_half ht hh h _)]
theorem needs_split (n : Nat) (l : List Bool) (m : Nat) : (needsTo false n l m).length + (needsTo true n l m).length = m := by
  induction m with
  | zero => rfl
  | succ m ih =>
    rw [needsTo_succ, needsTo_succ]
    cases needsB n l m <;> simp <;> omega
/-! which bits count, and whether a table's values are all the same -/
theorem needs_none : ∀ (n : Nat) (l : List Bool), l.length = 2 ^ n → (∀ j, j < n → nd (2 ^ (n - 1 - j)) l) → l.contains true = false ∨ l.contains false = false := by
  intro n
  induction n with
  | zero =>
    intro l hl _
    match l, hl with
    | [x], _ => cases x <;> decide
  | succ n ih =>
    intro l hl h
    have hl2 : l.length = 2 * 2 ^ n := by rw [hl, Nat.pow_succ, Nat.mul_comm]
    have h0 : halfL l true = halfL l false := half_same (Nat.two_pow_pos n) hl2 (by simpa using h 0 (by omega))
    have h1 := ih (halfL l false) (halfL_len hl _) (fun j hj => by
      have hh : l.length = 2 * (2 ^ (n - 1 - j) * (2 * 2 ^ j)) := by rw [hl2, pow_split hj]
      have := h (j + 1) (by omega)
      rw [show n + 1 - 1 - (j + 1) = n - 1 - j from by omega] at this
      exact nd_half (Nat.two_pow_pos _) hh this false)
    have hap : l = halfL l false ++ halfL l true := (List.take_append_drop _ l).symm
    have hc : ∀ b, l.contains b = (halfL l false).contains b := by
      intro b
      conv => lhs; rw [hap, h0]
      rw [Bool.eq_iff_iff, List.contains_iff_mem, List.contains_iff_mem, List.mem_append, or_self]
    rw [hc, hc]
    exact h1
theorem const_getD {l : List Bool} {b : Bool} (h : l.contains (!b) = false) (i : Nat) (hi : i < l.length) : l.getD i false = b := by
  rw [getD_lt l i false hi]
  by_cases e : l[i] = b
  · exact e
  · exfalso
    have hm : l[i] ∈ l := List.getElem_mem hi
    have e2 : l[i] = !b := by revert e; cases l[i] <;> cases b <;> simp
    rw [e2, ← List.contains_iff_mem, h] at hm
    cases hm
theorem const_nd {n j : Nat} {l : List Bool} {b : Bool} (hj : j < n) (hl : l.length = 2 ^ n) (h : l.contains (!b) = false) : nd (2 ^ (n - 1 - j)) l := by
  intro q hq he
  have h2 : q + 2 ^ (n - 1 - j) < l.length := by
    rw [hl, pow_split hj] at hq ⊢
    exact half_lt (Nat.two_pow_pos _) hq he
  rw [const_getD h q hq, const_getD h _ h2]
end Go.Proofs.Ythipjoioicmcnaa.Pure
/- Decimal texts and keys of tables, the program's and the reference's. Conditions: each lemma's own hypotheses. -/
set_option linter.unusedSimpArgs false
set_option linter.unusedVariables false
namespace Go.Proofs.Ythipjoioicmcnaa.Pure
open Go.RowKit Go.Proofs.Ythipjoioicmcnaa.G Go.Proofs.YthipjoioicmcnaaW.PrintWords Go.Proofs.YthipjoioicmcnaaW.PrintLast Go.Proofs.YthipjoioicmcnaaW.PrintMore

/-- The decimal digits of a number. -/
def digs (n : Nat) : List UInt8 := if n < 10 then [UInt8.ofNat (48 + n)] else digs (n / 10) ++ [UInt8.ofNat (48 + n % 10)]
termination_by n
decreasing_by omega
theorem digs_small {n : Nat} (h : n < 10) : digs n = [UInt8.ofNat (48 + n)] := by rw [digs, if_pos h]
theorem digs_big {n : Nat} (h : ¬ n < 10) : digs n = digs (n / 10) ++ [UInt8.ofNat (48 + n % 10)] := by rw [digs, if_neg h]
theorem digs_pos (n : Nat) : 1 ≤ (digs n).length := by
  by_cases h : n < 10
  · rw [digs_small h]; simp
  · rw [digs_big h]; simp
theorem digs_len (d : Nat) : ∀ n, n < 10 ^ d → (digs n).length ≤ max 1 d := by
  induction d with
  | zero => intro n hn; rw [digs_small (by omega)]; simp
  | succ d ih =>
    intro n hn
    by_cases h : n < 10
    · rw [digs_small h]; simp <;> omega
    · rw [digs_big h]
      have := ih (n / 10) (by rw [Nat.pow_succ] at hn; omega)
      simp
      by_cases hd : d = 0
      · subst hd; omega
      · omega
def byts (l : List UInt8) : ByteArray := ⟨l.toArray⟩
theorem byts_append (a b : List UInt8) : byts a ++ byts b = byts (a ++ b) := by
  apply data_inj
  rw [ByteArray.data_append]
  simp [byts]
theorem byts_size (l : List UInt8) : (byts l).size = l.length := by
  show l.toArray.size = _
  simp
theorem byts_inj {a b : List UInt8} (h : byts a = byts b) : a = b := by
  have := congrArg (fun s : ByteArray => s.data.toList) h
  simpa [byts] using this
theorem byts_of (s : ByteArray) : byts s.data.toList = s := by cases s; simp [byts]
theorem ones_byts (l : List Bool) : ones l = byts (l.map fun b => if b then (49 : UInt8) else 48) := rfl
theorem digits_step (k : Nat) (s : List UInt8) (x : Nat) (h1 : x ≤ 18446744073709551615) (hs : s.length ≤ 100) (h0 : s = [] ∨ 0 < x) : impl_digits.l0 (k + 1) (x : Int) (byts s) = impl_digits.l0 k ((x / 10 : Nat) : Int) (byts (UInt8.ofNat (48 + x % 10) :: s)) := by
  have hm : Int.tmod (x : Int) 10 = ((x % 10 : Nat) : Int) := by rw [Int.tmod_eq_emod_of_nonneg (by omega)]; omega
  have hd : Int.tdiv (x : Int) 10 = ((x / 10 : Nat) : Int) := by rw [Int.tdiv_eq_ediv_of_nonneg (by omega)]; omega
  have he : (byts s).toList = s := by rw [toList_data]; simp [byts]
  have hc : strOfNums [(IntKind.u64.wrap (48 + Int.tmod (x : Int) 10)) % 256] = byts [UInt8.ofNat (48 + x % 10)] := by
    rw [hm, u64_of (by omega) (by omega), show ((48 : Int) + ((x % 10 : Nat) : Int)) % 256 = ((48 + x % 10 : Nat) : Int) by omega]
    rfl
  simp only [impl_digits.l0, he, Option.bind_some, hc, byts_size, hd]
  rw [u64_of (a := ((x / 10 : Nat) : Int)) (by omega) (by omega), byts_append]
  by_cases hs0 : s = []
  · rw [if_pos hs0, if_pos (by rw [List.length_singleton]; omega)]; rfl
  · have hx := h0.resolve_left hs0
    rw [if_neg hs0, if_pos (by omega), if_pos (by rw [List.length_singleton]; omega)]; rfl
theorem digits_stop (k : Nat) (s : List UInt8) (hs : s ≠ []) : impl_digits.l0 (k + 1) 0 (byts s) = some (byts s) := by
  have he : (byts s).toList = s := by rw [toList_data]; simp [byts]
  simp only [impl_digits.l0, he]
  rw [if_neg hs, if_neg (by decide)]
theorem digits_loop (d : Nat) : ∀ (x : Nat) (s : List UInt8) (k : Nat), (s = [] ∨ 0 < x) → x < 10 ^ (d + 1) → x ≤ 18446744073709551615 → s.length + d ≤ 60 → d + 1 < k → impl_digits.l0 k (x : Int) (byts s) = some (byts (digs x ++ s)) := by
  induction d with
  | zero =>
    intro x s k h0 h1 h2 h3 hk
    obtain ⟨k, rfl⟩ : ∃ m, k = m + 2 := ⟨k - 2, by omega⟩
    rw [digits_step (k + 1) s x h2 (by omega) h0, show x / 10 = 0 by omega, show ((0 : Nat) : Int) = 0 from rfl, digits_stop _ _ (by simp), digs_small (by omega), Nat.mod_eq_of_lt (by omega)]
    rfl
  | succ d ih =>
    intro x s k h0 h1 h2 h3 hk
    obtain ⟨k, rfl⟩ : ∃ m, k = m + 1 := ⟨k - 1, by omega⟩
    rw [digits_step k s x h2 (by omega) h0]
    by_cases h : x < 10
    · obtain ⟨k, rfl⟩ : ∃ m, k = m + 1 := ⟨k - 1, by omega⟩
      rw [show x / 10 = 0 by omega, show ((0 : Nat) : Int) = 0 from rfl, digits_stop _ _ (by simp), digs_small h, Nat.mod_eq_of_lt h]
      rfl
    · rw [ih (x / 10) _ k (.inr (by omega)) (by rw [Nat.pow_succ] at h1; omega) (by omega) (by simp; omega) (by omega), digs_big h]
      simp
theorem impl_digits_eq (n : Nat) (hn : n ≤ 18446744073709551615) : ∀ k, 22 ≤ k → impl_digits.f k (n : Int) = some (byts (digs n)) := by
  intro k hk
  unfold impl_digits.f
  have h := digits_loop 19 n [] k (.inl rfl) (by omega) hn (by simp) (by omega)
  simpa [byts] using h
/-- The decimal text of a whole number. -/
def decs (a : Int) : List UInt8 := if a < 0 then 45 :: digs (-a).toNat else digs a.toNat
theorem impl_decimal_eq (a : Int) (h0 : -9223372036854775808 ≤ a) (h1 : a ≤ 9223372036854775807) : ∀ k, 22 ≤ k → impl_decimal.f k a = some (byts (decs a)) := by
  intro k hk
  unfold impl_decimal.f decs
  by_cases h : a < 0
  · rw [if_pos h, if_pos h, w64 (n := a + 1) (by omega) (by omega), w64 (n := -(a + 1)) (by omega) (by omega), u64_of (a := -(a + 1)) (by omega) (by omega), u64_of (a := -(a + 1) + 1) (by omega) (by omega), show -(a + 1) + 1 = (((-a).toNat : Nat) : Int) by omega, impl_digits_eq _ (by omega) k hk, Option.bind_some]
    have := digs_len 20 (-a).toNat (by omega)
    rw [if_pos (by rw [byts_size]; omega)]
    exact congrArg some (byts_append [45] _)
  · rw [if_neg h, if_neg h, u64_of (by omega) (by omega), show a = ((a.toNat : Nat) : Int) by omega, impl_digits_eq _ (by omega) k hk, Option.bind_some]
    rfl
theorem impl_decimal_nat (n : Nat) (hn : n ≤ 9223372036854775807) : ∀ k, 22 ≤ k → impl_decimal.f k (n : Int) = some (byts (digs n)) := by
  intro k hk
  rw [impl_decimal_eq (n : Int) (by omega) (by omega) k hk, decs, if_neg (by omega), Int.toNat_natCast]
/-- The key of a right table; the empty text for what is none. -/
def keyOf (N : Int) (s : ByteArray) : ByteArray := if tok N s then byts (digs N.toNat) ++ ⟨#[58]⟩ ++ s else ⟨#[]⟩
theorem digs12 {n : Nat} (h : n ≤ 12) : (digs n).length ≤ 2 := by
  have := digs_len 2 n (by omega)
  omega
theorem impl_TableKey_eq (N : Int) (s : ByteArray) (hs : s.size ≤ 1099511627776) : ∀ k, s.size + 30 < k → impl_TableKey.f k N s = some (keyOf N s) := by
  intro k hk
  unfold impl_TableKey.f impl_Table_key.f keyOf
  rw [impl_TableOk_eq N s hs k (by omega), Option.bind_some]
  cases ht : tok N s with
  | false => rfl
  | true =>
    obtain ⟨n, l, rfl, hn, hl, rfl⟩ := tok_form ht
    have := digs12 hn
    rw [if_pos rfl, impl_decimal_nat n (by omega) k (by omega), Option.bind_some, if_pos (by rw [byts_size]; omega), if_pos (by rw [byts_size]; omega)]
    rfl
end Go.Proofs.Ythipjoioicmcnaa.Pure
/- The law of halves. Conditions: lengths fit. -/
set_option linter.unusedSimpArgs false
set_option linter.unusedVariables false
namespace Go.Proofs.Ythipjoioicmcnaa.Pure
open Go.RowKit Go.Proofs.Ythipjoioicmcnaa.G Go.Proofs.YthipjoioicmcnaaW.PrintWords Go.Proofs.YthipjoioicmcnaaW.PrintLast Go.Proofs.YthipjoioicmcnaaW.PrintMore

/-- The one value of all, or -1. -/
def kn (l : List Bool) : Int := if l.contains true then (if l.contains false then -1 else 1) else 0
theorem kn_app (a b : List Bool) : (a ++ b).contains true = (a.contains true || b.contains true) ∧ (a ++ b).contains false = (a.contains false || b.contains false) := by
  constructor <;> (rw [Bool.eq_iff_iff, List.contains_iff_mem, List.mem_append, Bool.or_eq_true, List.contains_iff_mem, List.contains_iff_mem])
theorem has_one {l : List Bool} (h : l ≠ []) : l.contains true = true ∨ l.contains false = true := by
  match l, h with
  | x :: l, _ => cases x <;> simp
theorem ones_append (a b : List Bool) : ones a ++ ones b = ones (a ++ b) := by
  apply data_inj
  rw [ByteArray.data_append]
  simp [ones]
/-- The first bit that counts is bit 0 where that one counts. -/
theorem needs_head (n : Nat) (l : List Bool) : ∀ m, (needsTo true n l (m + 1) = [] → needsB n l 0 = false) ∧ (needsTo true n l (m + 1) ≠ [] → ((needsTo true n l (m + 1)).getD 0 0 == 0) = needsB n l 0) := by
  intro m
  have hs : needsTo true n l (m + 1) = (if needsB n l 0 then [0] else []) ++ ((List.range m).map Nat.succ |>.filter fun j => needsB n l j == true).map fun (j : Nat) => (j : Int) := by
    unfold needsTo
    rw [List.range_succ_eq_map, List.filter_cons, beq_true]
    cases needsB n l 0 <;> simp
  rw [hs]
  cases hb : needsB n l 0
  · simp only [Bool.false_eq_true, if_false, List.nil_append, true_and, implies_true]
    intro hne
    generalize hL : ((List.range m).map Nat.succ |>.filter fun j => needsB n l j == true).map (fun (j : Nat) => (j : Int)) = L at hne
    match L, hne with
    | x :: L, _ =>
      have hx : x ∈ ((List.range m).map Nat.succ |>.filter fun j => needsB n l j == true).map (fun (j : Nat) => (j : Int)) := by rw [hL]; simp
      obtain ⟨j, hj, rfl⟩ := List.mem_map.1 hx
      obtain ⟨i, _, rfl⟩ := List.mem_map.1 (List.mem_filter.1 hj).1
      simp only [List.getD_cons_zero, beq_eq_false_iff_ne]
      omega
  · simp
theorem needs_empty {n : Nat} {l : List Bool} (hl : l.length = 2 ^ n) : needsTo true n l n = [] ↔ kn l ≥ 0 := by
  have hne : l ≠ [] := by intro h; have := Nat.two_pow_pos n; rw [h] at hl; simp only [List.length_nil] at hl; omega
  constructor
  · intro h
    have hall : ∀ j, j < n → nd (2 ^ (n - 1 - j)) l := by
      intro j hj
      rw [← nd_of hl]
      by_cases hb : needsB n l j = false
      · exact hb
      · exfalso
        have hm : (j : Int) ∈ needsTo true n l n := by
          unfold needsTo
          exact List.mem_map.2 ⟨j, List.mem_filter.2 ⟨by simpa using hj, by simpa using hb⟩, rfl⟩
        rw [h] at hm
        simp at hm
    rcases needs_none n l hl hall with h1 | h1 <;> unfold kn <;> rw [h1]
    · simp
    · cases l.contains true <;> simp
  · intro h
    have hc : l.contains true = false ∨ l.contains false = false := by
      unfold kn at h
      cases h1 : l.contains true
      · exact .inl rfl
      · cases h2 : l.contains false
        · exact .inr rfl
        · rw [h1, h2] at h; simp at h
    unfold needsTo
    rw [List.map_eq_nil_iff, List.filter_eq_nil_iff]
    intro j hj
    have hj' : j < n := by simpa using hj
    have : needsB n l j = false := by
      rw [nd_of hl]
      rcases hc with hc | hc
      · exact const_nd (b := false) hj' hl hc
      · exact const_nd (b := true) hj' hl hc
    simp [this]
theorem laws_FnHalves_j0_eq (n : Nat) (hn : n ≤ 11) (l : List Bool) (hl : l.length = 2 ^ (n + 1)) : ∀ k, 60000 < k →
    laws_FnHalves.j0 k (kn l) false ((n + 1 : Nat) : Int) (ones l) (n : Int) (ones (halfL l false)) (n : Int) (ones (halfL l true)) = some true := by
  intro k hk
  obtain ⟨k, rfl⟩ : ∃ m, k = m + 1 := ⟨k - 1, by omega⟩
  have hp := pow12 (n := n + 1) (by omega)
  have hp2 := pow12 (n := n) (by omega)
  have hpos : 0 < 2 ^ n := Nat.two_pow_pos n
  have hl2 : l.length = 2 * 2 ^ n := by rw [hl, Nat.pow_succ, Nat.mul_comm]
  have hh := fun b => halfL_len (n := n) hl b
  have ek : ∀ b, impl_Known.f k (n : Int) (ones (halfL l b)) = some (kn (halfL l b)) := by
    intro b
    rw [impl_Known_eq _ _ (by rw [ones_size, hh]; omega) k (by rw [ones_size, hh]; omega)]
    unfold knownT
    rw [tok_ones (by omega) (hh b), flags_ones, if_pos rfl]
    rfl
  have en := impl_Needs_eq ((n + 1 : Nat) : Int) (ones l) (by rw [ones_size]; omega) k (by rw [ones_size]; omega)
  rw [if_pos (tok_ones (by omega) hl), ones_back, Int.toNat_natCast] at en
  have hne := needs_empty hl
  have hhd := needs_head (n + 1) l n
  have hdiff : needsB (n + 1) l 0 = (!((n : Int) == (n : Int)) || (!((ones (halfL l false)).toList == (ones (halfL l true)).toList))) := by
    rw [beq_self_eq_true, Bool.not_true, Bool.false_or]
    rw [show ((ones (halfL l false)).toList == (ones (halfL l true)).toList) = (halfL l false == halfL l true) from by
      rw [Bool.eq_iff_iff, beq_iff_eq, beq_iff_eq, toList_inj]
      exact ⟨ones_inj, fun h => by rw [h]⟩]
    by_cases h : needsB (n + 1) l 0 = false
    · rw [h, half_same hpos hl2 (by simpa using (nd_of hl).1 h)]
      simp
    · rw [Bool.not_eq_false] at h
      rw [h]
      symm
      rw [Bool.not_eq_true', beq_eq_false_iff_ne]
      intro he
      have : needsB (n + 1) l 0 = false := by
        rw [nd_of hl]
        intro q hq hq0
        simp only [Nat.add_sub_cancel, Nat.sub_zero] at hq0 ⊢
        have hq' : q < 2 ^ n := by
          have h1 : q / 2 ^ n < 2 := by rw [Nat.div_lt_iff_lt_mul hpos]; omega
          have h2 : q / 2 ^ n = 0 := by
            generalize q / 2 ^ n = g at h1 hq0 ⊢
            omega
          exact (Nat.div_eq_zero_iff_lt hpos).1 h2
        have h1 := halfL_getD hl2 false q hq'
        have h2 := halfL_getD hl2 true q hq'
        rw [he, h2] at h1
        simpa [Nat.add_comm] using h1.symm
      rw [this] at h
      cases h
  have hap : l = halfL l false ++ halfL l true := (List.take_append_drop _ l).symm
  have ha := kn_app (halfL l false) (halfL l true)
  rw [← hap] at ha
  have ho := has_one (l := halfL l false) (by intro h; have := hh false; rw [h] at this; simp at this; omega)
  have ho' := has_one (l := halfL l true) (by intro h; have := hh true; rw [h] at this; simp at this; omega)
  have F : (kn (halfL l false) ≥ 0 → ((decide (kn l ≥ 0)) != (kn (halfL l false) == kn (halfL l true))) = false ∧ (kn l ≥ 0 → kn l = kn (halfL l false))) ∧ (¬ kn (halfL l false) ≥ 0 → ¬ kn l ≥ 0) := by
    unfold kn
    rw [ha.1, ha.2]
    revert ho ho'
    generalize (halfL l false).contains true = a
    generalize (halfL l false).contains false = b
    generalize (halfL l true).contains true = c
    generalize (halfL l true).contains false = d
    revert a b c d
    decide +kernel
  have fin : ∀ t : List Int, t = needsTo true (n + 1) l (n + 1) → (if (t.length : Int) > 0 then (if 0 < (t.length : Int) then (if (((rd t 0) == 0) == (!((n : Int) == (n : Int)) || (!((ones (halfL l false)).toList == (ones (halfL l true)).toList)))) = true then (some ((decide (kn l ≥ 0)) == ((t.length : Int) == 0))) else (some false)) else (none)) else (if (false == (!((n : Int) == (n : Int)) || (!((ones (halfL l false)).toList == (ones (halfL l true)).toList)))) = true then (some ((decide (kn l ≥ 0)) == ((t.length : Int) == 0))) else (some false))) = some true := by
    intro t ht
    rw [← hdiff]
    by_cases h0 : t = []
    · have hk0 : kn l ≥ 0 := hne.1 (ht ▸ h0)
      rw [h0, if_neg (by simp), hhd.1 (ht ▸ h0), if_pos (by decide), decide_eq_true hk0]
      rfl
    · have hk0 : ¬ kn l ≥ 0 := fun h => h0 (ht.trans (hne.2 h))
      have hl0 : 0 < t.length := List.length_pos_iff.2 h0
      have hh0 := hhd.2 (ht ▸ h0)
      rw [← ht] at hh0
      rw [if_pos (by omega), if_pos (by omega), show rd t 0 = t.getD 0 0 from rd_nat t 0, hh0, if_pos (by simp), decide_eq_false hk0, show (((t.length : Nat) : Int) == 0) = false from by rw [beq_eq_false_iff_ne]; omega]
      rfl
  simp only [laws_FnHalves.j0]
  rw [if_neg (by decide), ek, Option.bind_some, ek, Option.bind_some, en]
  simp only [Option.bind_some]
  by_cases h1 : kn (halfL l false) ≥ 0
  · obtain ⟨f1, f2⟩ := F.1 h1
    rw [if_pos h1, f1, if_neg (by decide)]
    by_cases h2 : kn l ≥ 0
    · rw [if_pos h2, if_pos (f2 h2)]
      exact fin _ rfl
    · rw [if_neg h2]
      exact fin _ rfl
  · have h2 := F.2 h1
    rw [if_neg h1, if_neg (show ¬ ((decide (kn l ≥ 0) != false) = true) by rw [decide_eq_false h2]; decide), if_neg h2]
    exact fin _ rfl
theorem FnHalves_pure : ∀ (l0 : List Int), (l0.length ≤ maxLen ∧ ∀ x_ ∈ l0, (Lit.int .u8 x_).wf = true) → ∃ k, laws_FnHalves.f k l0 = some true := by
  intro b _
  unfold laws_FnHalves.f laws_big.f
  by_cases hb : (b.length : Int) > 1048576
  · exact ⟨0, by rw [Option.bind_some, if_pos (by simpa using hb)]⟩
  obtain ⟨k, hk⟩ : ∃ k, b.length + 100000 < k := ⟨b.length + 100001, by omega⟩
  refine ⟨k, ?_⟩
  obtain ⟨N, s, e, hN0, hN1, hs⟩ := drawKnown_ok b (by omega) k (by omega)
  have hem : (⟨#[]⟩ : ByteArray).toList = [] := by rw [toList_data]
  rw [Option.bind_some, if_neg (by simpa using hb), e, Option.bind_some]
  simp only
  rw [spec_TableOk_eq N s (by omega) k (by omega), Option.bind_some]
  have ek := impl_Known_eq N s (by omega) k (by omega)
  have en := impl_Needs_eq N s (by omega) k (by omega)
  have ec := impl_TableCount_eq N s (by omega) k (by omega)
  have ey := impl_TableKey_eq N s (by omega) k (by omega)
  cases ht : tok N s with
  | false =>
    rw [ht] at en
    rw [if_neg (by decide), ek, en, ec, ey]
    unfold knownT countT keyOf
    rw [ht]
    simp only [Bool.false_eq_true, if_false, Option.bind_some]
    rw [if_pos trivial, if_pos (by simp), if_pos trivial, hem]
    rfl
  | true =>
    obtain ⟨n, l, rfl, hn, hl, rfl⟩ := tok_form ht
    have hp := pow12 hn
    rw [ht, if_pos rfl, ones_back, Int.toNat_natCast] at en
    have ek2 : knownT (n : Int) (ones l) = kn l := by unfold knownT; rw [ht, flags_ones, if_pos rfl]; rfl
    have ec2 : countT (n : Int) (ones l) = ((l.count true : Nat) : Int) := by unfold countT; rw [ht, flags_ones, if_pos rfl]
    rw [if_pos rfl, ek, Option.bind_some, ec, Option.bind_some, ek2, ec2]
    by_cases h0 : (n : Int) = 0
    · obtain rfl : n = 0 := by omega
      match l, hl with
      | [x], _ =>
        have eh : halfT ((0 : Nat) : Int) (ones [x]) 0 = (0, ⟨#[]⟩, false) := by unfold halfT; rw [if_neg (by simp)]
        rw [if_pos h0, impl_Half_eq _ _ _ (by rw [ones_size]; simp) k (by rw [ones_size]; simp; omega), eh, Option.bind_some, if_neg (by decide), if_pos (by cases x <;> rfl), en, Option.bind_some]
        rfl
    · obtain ⟨m, rfl⟩ : ∃ m, n = m + 1 := ⟨n - 1, by omega⟩
      have hh := fun b => halfL_len (n := m) hl b
      have eh : ∀ h : Int, (h = 0 ∨ h = 1) → impl_Half.f k ((m + 1 : Nat) : Int) (ones l) h = some ((m : Int), ones (halfL l (h == 1)), true) := by
        intro h hh
        rw [impl_Half_eq _ _ _ (by rw [ones_size]; omega) k (by rw [ones_size]; omega)]
        unfold halfT
        rw [ht, flags_ones, show (((m + 1 : Nat) : Int) != 0) = true from by rw [bne_iff_ne]; omega, show (h == 0 || h == 1) = true from by simpa using hh, if_pos (by decide), show ((m + 1 : Nat) : Int) - 1 = (m : Int) by omega]
      have hap : halfL l false ++ halfL l true = l := List.take_append_drop _ l
      have ecb : ∀ b, impl_TableCount.f k (m : Int) (ones (halfL l b)) = some (((halfL l b).count true : Nat) : Int) := by
        intro b
        have hp2 := pow12 (n := m) (by omega)
        rw [impl_TableCount_eq _ _ (by rw [ones_size, hh]; omega) k (by rw [ones_size, hh]; omega)]
        unfold countT
        rw [tok_ones (by omega) (hh b), flags_ones, if_pos rfl]
      have hcnt : (halfL l false).count true + (halfL l true).count true = l.count true := by rw [← List.count_append, hap]
      have hcl : l.count true ≤ l.length := List.count_le_length
      rw [if_neg h0, eh 0 (.inl rfl), Option.bind_some, eh 1 (.inr rfl), Option.bind_some]
      have e0 : ((0 : Int) == 1) = false := rfl
      have e1 : ((1 : Int) == 1) = true := rfl
      rw [e0, e1]
      simp only [if_true]
      have hp2 := pow12 (n := m) (by omega)
      rw [w64 (by omega) (by omega), if_pos (by omega), if_pos (by rw [ones_size, ones_size, hh, hh]; omega), ones_append, hap, if_pos rfl, ecb, Option.bind_some, ecb, Option.bind_some, w64 (by omega) (by omega), show ((((halfL l false).count true : Nat) : Int) + (((halfL l true).count true : Nat) : Int) != ((l.count true : Nat) : Int)) = false from by simp; omega]
      exact laws_FnHalves_j0_eq m (by omega) l hl k (by omega)
end Go.Proofs.Ythipjoioicmcnaa.Pure
/- What an argument of a law reads as, told by the print's kinds: a lemma for each shape of type. Conditions: none beyond the lemmas' own hypotheses. -/
namespace Go.Proofs.Ythipjoioicmcnaa.Open
open Go.Deep Go.ChangeShapes Go.WideShapes Go.RowKit Go.Proofs.YthipjoioicmcnaaW.PrintWords

/-- Whatever reads as data of type t reads by the kind d, and what is read is ok. -/
def Opens {α : Type} (P : Program) (t : TypeId) (d : Kd α) (ok : α → Prop) : Prop :=
  ∀ (H : Type) (enc : TypeId × Value → H) (w : World) (base : Nat) (spare : Nat → Bool) (held : Bool) (fuel : Nat) (cs : List Value) (x : DataW H × List MemPlace),
    DataW.trod enc P w base spare held fuel t cs = some x → ∃ a, d.K w a cs ∧ ok a

def FOpens {α : Type} (P : Program) (fs : List Field) (off : Nat) (d : Kd α) (ok : α → Prop) : Prop :=
  ∀ (H : Type) (enc : TypeId × Value → H) (w : World) (base : Nat) (spare : Nat → Bool) (held : Bool) (fuel : Nat) (cs : List Value),
    (∀ f ∈ fs, ∃ x, DataW.trod enc P w base spare held fuel f.type ((cs.drop f.offset).take (P.cellsOf f.type)) = some x) → ∃ a, d.K w a ((cs.drop off).take d.sz) ∧ ok a

theorem opens_int {P : Program} {t : TypeId} {k : IntKind} (hu : P.underlying t = some (.int k)) : Opens P t (Kd.int k) (fun a => (Lit.int k a).wf = true) := by
  intro H enc w base spare held fuel cs x h
  obtain ⟨n, rfl, _, hw⟩ := DataW.trod_int hu h
  exact ⟨n, rfl, hw⟩
theorem opens_bool {P : Program} {t : TypeId} (hu : P.underlying t = some .bool) : Opens P t Kd.bool (fun _ => True) := by
  intro H enc w base spare held fuel cs x h
  obtain ⟨n, rfl, _⟩ := DataW.trod_bool hu h
  exact ⟨n, rfl, trivial⟩
theorem opens_string {P : Program} {t : TypeId} (hu : P.underlying t = some .string) : Opens P t Kd.string (fun s => s.size ≤ maxLen) := by
  intro H enc w base spare held fuel cs x h
  obtain ⟨n, rfl, _, hw⟩ := DataW.trod_string hu h
  exact ⟨n, rfl, hw⟩
theorem list_of {α : Type} {p : Nat → α → Prop} : ∀ n, (∀ i, i < n → ∃ a, p i a) → ∃ l : List α, l.length = n ∧ ∀ i a, l[i]? = some a → p i a
  | 0, _ => ⟨[], rfl, fun i a h => by simp at h⟩
  | n + 1, h => by
    obtain ⟨l, hl, hp⟩ := list_of n (fun i hi => h i (by omega))
    obtain ⟨a, ha⟩ := h n (by omega)
    refine ⟨l ++ [a], by simp [hl], fun i b hb => ?_⟩
    rw [List.getElem?_append] at hb
    split at hb
    · exact hp i b hb
    · rename_i hi
      have e : i = n := by
        rcases Nat.lt_or_ge (i - l.length) 1 with h1 | h1
        · omega
        · rw [List.getElem?_eq_none (by simpa using h1)] at hb
          cases hb
      subst e
      rw [hl, Nat.sub_self] at hb
      cases hb
      exact ha
theorem opens_slice {α : Type} {P : Program} {t e : TypeId} {d : Kd α} {ok : α → Prop} (hu : P.underlying t = some (.slice e)) (hc : P.cellsOf e = d.sz) (h : Opens P e d ok) :
    Opens P t (Kd.slice e d) (fun l => l.length ≤ maxLen ∧ ∀ x ∈ l, ok x) := by
  intro H enc w base spare held fuel cs x hx
  rcases open_slice hu hx with ⟨rfl, rfl⟩ | ⟨a, len, cap, m, n, D, Pl, rfl, hb, hl, hm, hmm, rfl, hel⟩
  · exact ⟨[], ⟨none, 0, rfl, Nat.le_refl _, rfl, by simp, fun h => absurd h (by simp)⟩, by simp [maxLen], by simp⟩
  · have hle : len ≤ m := by rw [hmm]; split <;> omega
    have hone : ∀ i, i < len → ∃ y : α, (∃ cs', w.cells? base (a.add (i * P.cellsOf e)) (P.cellsOf e) = some cs' ∧ d.K w y cs') ∧ ok y := by
      intro i hi
      obtain ⟨cs', h1, h2⟩ := hel i (by omega)
      obtain ⟨y, hk, ho⟩ := h H enc w base spare held n cs' _ h2
      exact ⟨y, ⟨cs', h1, hk⟩, ho⟩
    obtain ⟨l, hll, hp⟩ := list_of len hone
    subst hll
    refine ⟨l, ⟨some a, cap, rfl, hl, rfl, by simp only [maxLen] at hm; omega, fun _ => ⟨a, rfl, fun j p hj => ?_⟩⟩, by omega, ?_⟩
    · obtain ⟨⟨cs', h1, hk⟩, _⟩ := hp j p hj
      refine ⟨cs', d.K_len hk, hk, fun i u hu => ?_⟩
      have hlt : i < cs'.length := by
        rcases Nat.lt_or_ge i cs'.length with h' | h'
        · exact h'
        · rw [List.getElem?_eq_none h'] at hu; cases hu
      have hlen := d.K_len hk
      obtain ⟨_, hlen2, hcell⟩ := World.cells?_some h1
      rw [hc] at hcell
      have := hcell i (by omega)
      rw [hu] at this
      rw [← Addr.add_add]
      exact this.symm ▸ rfl
    · intro x hx
      obtain ⟨i, hi, rfl⟩ := List.getElem_of_mem hx
      exact (hp i _ (List.getElem?_eq_getElem hi)).2
theorem fopens_one {α : Type} {P : Program} {f : Field} {off : Nat} {d : Kd α} {ok : α → Prop} (ho : f.offset = off) (hc : P.cellsOf f.type = d.sz) (h : Opens P f.type d ok) : FOpens P [f] off d ok := by
  intro H enc w base spare held fuel cs hx
  obtain ⟨x, hx⟩ := hx f (by simp)
  rw [ho, hc] at hx
  exact h H enc w base spare held fuel _ x hx
theorem fopens_cons {α β : Type} {P : Program} {f : Field} {fs : List Field} {off : Nat} {d : Kd α} {d' : Kd β} {ok : α → Prop} {ok' : β → Prop} (ho : f.offset = off) (hc : P.cellsOf f.type = d.sz) (h : Opens P f.type d ok)
    (hs : FOpens P fs (off + d.sz) d' ok') : FOpens P (f :: fs) off (Kd.pair d d') (fun x => ok x.1 ∧ ok' x.2) := by
  intro H enc w base spare held fuel cs hx
  obtain ⟨a, ha, hoa⟩ := fopens_one ho hc h H enc w base spare held fuel cs (fun g hg => hx g (by simp at hg; simp [hg]))
  obtain ⟨b, hb, hob⟩ := hs H enc w base spare held fuel cs (fun g hg => hx g (by simp [hg]))
  refine ⟨(a, b), ⟨_, _, ?_, ha, hb⟩, hoa, hob⟩
  show (cs.drop off).take (d.sz + d'.sz) = _
  rw [List.take_add, List.drop_drop]
theorem opens_struct {α : Type} {P : Program} {t : TypeId} {fs : Array Field} {d : Kd α} {ok : α → Prop} (hu : P.underlying t = some (.struct fs)) (hc : P.cellsOf t = d.sz) (h : FOpens P fs.toList 0 d ok) : Opens P t d ok := by
  intro H enc w base spare held fuel cs x hx
  obtain ⟨xs, n, rfl, _, hlen, hxl, hf⟩ := DataW.trod_struct hu hx
  have := h H enc w base spare held n cs (fun f hm => by
    obtain ⟨i, hi, rfl⟩ := List.getElem_of_mem hm
    have hi' : i < fs.size := by simpa using hi
    have e := hf i fs[i] (Array.getElem?_eq_getElem hi')
    rw [List.getElem?_eq_getElem (show i < xs.length by omega)] at e
    exact ⟨_, by simpa using e⟩)
  rw [List.drop_zero, List.take_of_length_le (by omega)] at this
  exact this
theorem opens_iso {α β : Type} {P : Program} {t : TypeId} {d : Kd α} {ok : α → Prop} (f : β → α) (g : α → β) (hfg : ∀ a, f (g a) = a) (h : Opens P t d ok) : Opens P t (Kd.iso d f) (fun x => ok (f x)) := by
  intro H enc w base spare held fuel cs x hx
  obtain ⟨a, ha, ho⟩ := h H enc w base spare held fuel cs x hx
  exact ⟨g a, by show d.K w (f (g a)) cs; rw [hfg]; exact ha, by show ok (f (g a)); rw [hfg]; exact ho⟩
/-- A struct's value is its cells. -/
theorem agg_of_cells {P : Program} {w : World} {r : Reach} {base : Nat} {t : TypeId} {fs : Array Field} {v : Value} {cs : List Value} (hu : P.underlying t = some (.struct fs)) (hv : Value.okWide P w r base t v) (hc : v.cells.toList = cs) : v = .agg cs.toArray := by
  obtain ⟨c, rfl, _⟩ := okWide_struct hu hv
  simp only [Value.cells] at hc
  subst hc
  simp
end Go.Proofs.Ythipjoioicmcnaa.Open
/- The statement FnHalvesSaid of the law FnHalves: for every input the call returns true and its arguments read as before. Conditions: none. (Written by a program of this session: wip/gen/row.py.) -/
namespace Go.Proofs.Ythipjoioicmcnaa.fnHalves
open Go.ChangeShapes Go.WideShapes Go.ChangeAt Go.RowKit Go.Proofs.Ythipjoioicmcnaa.Open Go.Proofs.Ythipjoioicmcnaa.G Go.Proofs.YthipjoioicmcnaaW.PrintWords
open Go.ChangeMaps (open_string shut_string)
set_option linter.unusedVariables false
theorem own : ownKnob Try.prog.godebug = none := by kernel_rfl
theorem laidOut : laidOutB Try.prog = true := by kernel_rfl
set_option maxRecDepth 100000 in
theorem lifted (os : Os) (started : os.Started) (H : Type) (enc : TypeId × Value → H) :
    ReturnsInHanded {} Try.checked os 5 .any (Rows.fnHalvesSpec.pre6 enc Try.prog Try.f5 Rows.fnHalvesRow.domain false) (Rows.fnHalvesSpec.post enc Try.prog Try.f5 false true false false) := by
  refine returnsInHanded_of_change (C := Try.checked) own started (by kernel_rfl) Try.func5
    (ChangeSpec.witness6 (enc := enc) (C := Try.checked) false ⟨#[], #[.slice none 0 0], []⟩ 8 (by kernel_rfl) (by kernel_rfl) (by kernel_rfl) (by kernel_rfl)) ?_
  intro W base args ds gs before hval0 hW hcnd _
  have hval : ∀ (j : Nat) t v, Try.f5.params[j]? = some t → args[j]? = some v → Value.okWide Try.prog W .any base t v := hval0
  have hW' := hW
  obtain ⟨p, q, hA0, hV, rfl, hfz, hnd⟩ := hW
  have hA : DataW.TrodAll enc Try.prog W 0 (fun _ => true) true Try.f5.params.toList args.toList ds p := hA0
  rw [Try.params5] at hA hval
  obtain ⟨v0, vs0, d0, ds0, p0, q0, hargs, rfl, rfl, h0, r0⟩ := trodAll_cons hA
  obtain ⟨rfl, rfl, rfl⟩ := trodAll_nil r0
  obtain rfl : args = #[v0] := by cases args; simp_all
  obtain ⟨rfl, rfl⟩ := trodVars_none hV
  have k0 := h0
  have lt0 : ∀ x ∈ p0, x.block < W.heap.size := by obtain ⟨m, hm⟩ := k0; exact DataW.trod_lt m _ _ _ hm
  obtain ⟨fu0, hf0⟩ := h0
  obtain ⟨a0, len0, cap0, rfl⟩ := okWide_slice Try.underlying22 (hval 0 22 v0 rfl rfl)
  obtain ⟨l0, hk0, ok0⟩ := (opens_slice (d := (Kd.int .u8)) Try.underlying22 (by kernel_rfl) (opens_int Try.underlying5)) _ enc W 0 _ true fu0 _ _ hf0
  obtain ⟨A0, c0, hcs0, hc0, hr0⟩ := hk0
  simp [Value.cells] at hcs0
  obtain ⟨rfl, rfl, rfl⟩ := hcs0
  clear hA0 hval0
  obtain ⟨k, hk⟩ := Pure.FnHalves_pure l0 ok0
  refine (laws_FnHalves.calls k _ _ l0 true W hr0 hc0 rfl hk).mono fun e W' ⟨he, bel0⟩ => ?_
  have bel : Below W.heap.size W W' := bel0
  subst he
  exact ⟨_, rfl, _, _, _, [], _, [], hW', trodAll_mk1 (shut_bool Try.underlying4 _), (trodAll_cons_mk (Below.trod laidOut (by kernel_rfl) (of_decide_eq_true (by kernel_rfl)) k0 bel lt0) trodAll_mk0), rfl, bel.frame _, fun h => by cases h⟩
theorem over : Rows.fnHalvesRow.holds Try.pinned (OpenSpec.ofChange Rows.fnHalvesSpec) :=
  OpenClaim.holds_of_wide 5 Try.f5 rfl rfl rfl rfl rfl rfl rfl ⟨rfl, rfl, rfl, rfl, rfl⟩ rfl rfl rfl rfl rfl (by kernel_rfl) Try.func5 (by kernel_rfl)
    (of_decide_eq_true (by kernel_rfl)) (by unfold Func.isWrapper; first | (rw [if_pos (by decide +kernel)]; kernel_rfl) | (rw [if_neg (by decide +kernel)]; exact ⟨rfl, rfl⟩))
    (fun os started H enc _ => lifted os started H enc)
theorem proved : Rows.FnHalvesSaid := over
end Go.Proofs.Ythipjoioicmcnaa.fnHalves
namespace Go.Proofs.Ythipjoioicmcnaa
/-- The given statement. -/
theorem fnHalves_holds : Rows.FnHalvesSaid := fnHalves.proved
#print axioms fnHalves_holds
end Go.Proofs.Ythipjoioicmcnaa
