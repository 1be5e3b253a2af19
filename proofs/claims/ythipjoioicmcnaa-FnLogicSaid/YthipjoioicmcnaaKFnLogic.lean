-- texts of this session, merged by a program of it (wip/gen/pack.py)
import Derived.Test.YthipjoioicmcnaaKFnLogic1
import Derived.Laws.BitsLemmas
import Derived.Test.YthipjoioicmcnaaKFnLogic4
import Derived.Test.YthipjoioicmcnaaKFnLogic2
import Derived.Test.YthipjoioicmcnaaKFnLogic3
import Derived.Test.YthipjoioicmcnaaKFnLogic5
import Derived.Test.YthipjoioicmcnaaKFnLogic6
import Derived.ProofKit
import Derived.WalkKit
import Derived.Deep.Slices
import Derived.OpenShut
import Derived.ChangeVars
import Derived.ChangeOld
import Derived.Below
import Derived.Test.YthipjoioicmcnaaWWords
import Derived.Test.YthipjoioicmcnaaRows
import Derived.ShutString
/- Plain lemmas about rounds, whole numbers, lists and strings, for the pure statements of this seat. Conditions: each lemma's own hypotheses. -/
set_option linter.unusedSimpArgs false
set_option linter.unusedVariables false
namespace Go.Proofs.Ythipjoioicmcnaa.Pure
open Go.RowKit Go.Proofs.YthipjoioicmcnaaW.PrintWords Go.Proofs.YthipjoioicmcnaaW.PrintLast Go.Proofs.YthipjoioicmcnaaW.PrintMore

/-- A loop that goes n rounds from state 0 on and then tells r. -/
theorem rounds {R : Type} (L : Nat → Nat → Option R) (n : Nat) (r : R) (step : ∀ k i, i < n → L (k + 1) i = L k (i + 1)) (stop : ∀ k, L (k + 1) n = some r) : ∀ k, n < k → L k 0 = some r := by
  have h : ∀ d i k, i + d = n → d < k → L k i = some r := by
    intro d
    induction d with
    | zero =>
      intro i k hi hk
      obtain ⟨k, rfl⟩ : ∃ m, k = m + 1 := ⟨k - 1, by omega⟩
      obtain rfl : i = n := by omega
      exact stop k
    | succ d ih =>
      intro i k hi hk
      obtain ⟨k, rfl⟩ : ∃ m, k = m + 1 := ⟨k - 1, by omega⟩
      rw [step k i (by omega)]
      exact ih (i + 1) k (by omega) (by omega)
  exact fun k hk => h n 0 k (by omega) hk
/-- The same where each round, and the end, asks for m rounds more (calls inside). -/
theorem rounds_ {R : Type} (m : Nat) (L : Nat → Nat → Option R) (n : Nat) (r : R) (step : ∀ k i, m ≤ k → i < n → L (k + 1) i = L k (i + 1)) (stop : ∀ k, m ≤ k → L (k + 1) n = some r) : ∀ k, n + m < k → L k 0 = some r := by
  have h : ∀ d i k, i + d = n → d + m < k → L k i = some r := by
    intro d
    induction d with
    | zero =>
      intro i k hi hk
      obtain ⟨k, rfl⟩ : ∃ m, k = m + 1 := ⟨k - 1, by omega⟩
      obtain rfl : i = n := by omega
      exact stop k (by omega)
    | succ d ih =>
      intro i k hi hk
      obtain ⟨k, rfl⟩ : ∃ m, k = m + 1 := ⟨k - 1, by omega⟩
      rw [step k i (by omega) (by omega)]
      exact ih (i + 1) k (by omega) (by omega)
  exact fun k hk => h n 0 k (by omega) hk
/-- A loop that goes on while p holds: where it ends, and with how many rounds left. -/
theorem rounds_to {R : Type} (L : Nat → Nat → R) (n : Nat) (p : Nat → Bool) (S E : Nat → R) (step : ∀ k i, i < n → (∀ j, j < i → p j = true) → p i = true → L (k + 1) i = L k (i + 1))
    (exit : ∀ k i, i < n → (∀ j, j < i → p j = true) → p i = false → L (k + 1) i = E k) (stop : ∀ k, (∀ j, j < n → p j = true) → L (k + 1) n = S k) :
    ∀ k, n < k → ∃ j, k - n - 1 ≤ j ∧ j < k ∧ L k 0 = if (List.range n).all p then S j else E j := by
  have h : ∀ d i k, i + d = n → d < k → (∀ j, j < i → p j = true) → ∃ j, k - d - 1 ≤ j ∧ j < k ∧ L k i = if (List.range n).all p then S j else E j := by
    intro d
    induction d with
    | zero =>
      intro i k hi hk hp
      obtain ⟨k, rfl⟩ : ∃ m, k = m + 1 := ⟨k - 1, by omega⟩
      obtain rfl : i = n := by omega
      refine ⟨k, by omega, by omega, ?_⟩
      rw [stop k hp, if_pos (List.all_eq_true.2 fun x hx => hp x (by simpa using hx))]
    | succ d ih =>
      intro i k hi hk hp
      obtain ⟨k, rfl⟩ : ∃ m, k = m + 1 := ⟨k - 1, by omega⟩
      cases hpi : p i with
      | true =>
        obtain ⟨j, h1, h2, h3⟩ := ih (i + 1) k (by omega) (by omega) (fun j hj => by
          rcases Nat.eq_or_lt_of_le (Nat.lt_succ_iff.1 hj) with e | e
          · exact e ▸ hpi
          · exact hp j e)
        exact ⟨j, by omega, by omega, (step k i (by omega) hp hpi).trans h3⟩
      | false =>
        refine ⟨k, by omega, by omega, ?_⟩
        rw [exit k i (by omega) hp hpi, if_neg (fun ha => by have := List.all_eq_true.1 ha i (by simp; omega); rw [hpi] at this; cases this)]
  exact fun k hk => h n 0 k (by omega) hk (fun j hj => absurd hj (by omega))
/-- A search that ends with one of two answers. -/
theorem rounds_pre {R : Type} (L : Nat → Nat → Option R) (n : Nat) (p : Nat → Bool) (r bad : R) (step : ∀ k i, i < n → (∀ j, j < i → p j = true) → p i = true → L (k + 1) i = L k (i + 1))
    (exit : ∀ k i, i < n → (∀ j, j < i → p j = true) → p i = false → L (k + 1) i = some bad) (stop : ∀ k, (∀ j, j < n → p j = true) → L (k + 1) n = some r) :
    ∀ k, n < k → L k 0 = some (if (List.range n).all p then r else bad) := by
  intro k hk
  obtain ⟨j, _, _, h⟩ := rounds_to L n p (fun _ => some r) (fun _ => some bad) step exit stop k hk
  rw [h]
  split <;> rfl
theorem w64 {n : Int} (h0 : -9223372036854775808 ≤ n) (h1 : n ≤ 9223372036854775807) : wrap64 n = n := by
  unfold wrap64
  omega
theorem w64s (i : Nat) (h : i < 4611686018427387904) : wrap64 ((i : Int) + 1) = ((i + 1 : Nat) : Int) := by
  rw [w64 (by omega) (by omega)]
  omega
theorem wfi {a : Int} (h : (Lit.int .i64 a).wf = true) : -9223372036854775808 ≤ a ∧ a ≤ 9223372036854775807 := by
  have hmin : IntKind.i64.min = -9223372036854775808 := rfl
  have hmax : IntKind.i64.max = 9223372036854775807 := rfl
  simp only [Lit.wf, Bool.and_eq_true, decide_eq_true_eq] at h
  omega
theorem u64_of {a : Int} (h0 : 0 ≤ a) (h1 : a ≤ 18446744073709551615) : IntKind.u64.wrap a = a := by
  have h : IntKind.u64.wrap a = a % 18446744073709551616 := by
    simp [IntKind.wrap, IntKind.bits, IntKind.signed]
  rw [h]
  omega

/-! lists -/
theorem rd_nat (xs : List Int) (i : Nat) : rd xs (i : Int) = xs.getD i 0 := by unfold rd; simp
theorem rdOf_nat {α : Type} (d : α) (xs : List α) (i : Nat) : rdOf d xs (i : Int) = xs.getD i d := by unfold rdOf; simp
theorem getD_lt {α : Type} (xs : List α) (i : Nat) (d : α) (h : i < xs.length) : xs.getD i d = xs[i] := by
  rw [List.getD_eq_getElem?_getD, List.getElem?_eq_getElem h]
  rfl
theorem take_succ_getD {α : Type} (xs : List α) (i : Nat) (d : α) (h : i < xs.length) : xs.take (i + 1) = xs.take i ++ [xs.getD i d] := by
  rw [List.take_succ_eq_append_getElem h, getD_lt xs i d h]
/-- What is written from the front on. -/
theorem set_front {α : Type} (p l : List α) (i : Nat) (v : α) (hl : p.length = l.length) (h : i < l.length) (hv : p[i]? = some v) : (p.take i ++ l.drop i).set i v = p.take (i + 1) ++ l.drop (i + 1) := by
  apply List.ext_getElem?
  intro j
  by_cases hj : j = i
  · subst hj
    rw [List.getElem?_set_self (by simp; omega), List.getElem?_append_left (by simp; omega), List.getElem?_take_of_lt (by omega), hv]
  · rw [List.getElem?_set_ne (by omega)]
    rcases Nat.lt_or_ge j i with h1 | h1
    · rw [List.getElem?_append_left (by simp; omega), List.getElem?_append_left (by simp; omega), List.getElem?_take_of_lt (by omega), List.getElem?_take_of_lt (by omega)]
    · rw [List.getElem?_append_right (by simp; omega), List.getElem?_append_right (by simp; omega)]
      simp only [List.length_take, List.getElem?_drop]
      congr 1
      omega

/-! strings -/
theorem bt_nat (s : ByteArray) (i : Nat) (h : i < s.size) : bt s (i : Int) = (s[i].toNat : Int) := by
  unfold bt
  simp [h]
theorem toList_data (s : ByteArray) : s.toList = s.data.toList := ByteArray.toList_eq s
end Go.Proofs.Ythipjoioicmcnaa.Pure
/- What the statements' own helpers answer (copies, comparisons, marks), as plain equations. Conditions: each lemma's own hypotheses. -/

set_option linter.unusedSimpArgs false
set_option linter.unusedVariables false
namespace Go.Proofs.Ythipjoioicmcnaa.Pure
open Go.RowKit Go.Proofs.Ythipjoioicmcnaa.G Go.Proofs.YthipjoioicmcnaaW.PrintWords Go.Proofs.YthipjoioicmcnaaW.PrintLast Go.Proofs.YthipjoioicmcnaaW.PrintMore

end Go.Proofs.Ythipjoioicmcnaa.Pure
/- Tables as lists of flags: what the program and the reference take for a right table. Conditions: each lemma's own hypotheses. -/
set_option linter.unusedSimpArgs false
set_option linter.unusedVariables false
namespace Go.Proofs.Ythipjoioicmcnaa.Pure
open Go.RowKit Go.Proofs.Ythipjoioicmcnaa.G Go.Proofs.YthipjoioicmcnaaW.PrintWords Go.Proofs.YthipjoioicmcnaaW.PrintLast Go.Proofs.YthipjoioicmcnaaW.PrintMore

/-- A search over rounds: it ends at the first round that fails. -/
theorem rounds_all {R : Type} (L : Nat → Nat → Option R) (n : Nat) (p : Nat → Bool) (r bad : R) (step : ∀ k i, i < n → p i = true → L (k + 1) i = L k (i + 1)) (exit : ∀ k i, i < n → p i = false → L (k + 1) i = some bad)
    (stop : ∀ k, L (k + 1) n = some r) : ∀ k, n < k → L k 0 = some (if (List.range n).all p then r else bad) :=
  rounds_pre L n p r bad (fun k i hi _ hp => step k i hi hp) (fun k i hi _ hp => exit k i hi hp) (fun k _ => stop k)

/-! ### tables -/
def sgn (b : Bool) : Int := if b then 49 else 48
def ones (l : List Bool) : ByteArray := ⟨(l.map fun b => if b then (49 : UInt8) else 48).toArray⟩
theorem ones_size (l : List Bool) : (ones l).size = l.length := by
  show (l.map fun b => if b then (49 : UInt8) else 48).toArray.size = _
  simp
theorem bt_ones (l : List Bool) (i : Nat) (h : i < l.length) : bt (ones l) (i : Int) = sgn (l.getD i false) := by
  have hs : i < (ones l).size := by rw [ones_size]; exact h
  rw [bt_nat _ i hs, getD_lt l i false h]
  have e : (ones l)[i] = if l[i] then (49 : UInt8) else 48 := by
    have h1 : (ones l).data.toList[i]? = some (ones l)[i] := by
      rw [List.getElem?_eq_getElem (by simpa using hs)]
      rfl
    have h2 : (ones l).data.toList[i]? = some (if l[i] then (49 : UInt8) else 48) := by simp [ones, h]
    exact Option.some.inj (h1.symm.trans h2)
  rw [e]
  unfold sgn
  cases l[i] <;> rfl
theorem ones_inj {a b : List Bool} (h : ones a = ones b) : a = b := by
  unfold ones at h
  injection h with h
  have h2 : (a.map fun b => if b then (49 : UInt8) else 48) = b.map fun b => if b then (49 : UInt8) else 48 := by simpa using congrArg Array.toList h
  exact List.map_inj_right (fun x y hxy => by revert hxy; cases x <;> cases y <;> decide) |>.1 h2
theorem data_inj {a b : ByteArray} (h : a.data.toList = b.data.toList) : a = b := by
  cases a; cases b
  simp only [ByteArray.mk.injEq]
  exact Array.toList_inj.1 h
theorem toList_inj {a b : ByteArray} : a.toList = b.toList ↔ a = b := by
  rw [toList_data, toList_data]
  exact ⟨data_inj, fun h => h ▸ rfl⟩
theorem strOfNums_ones (l : List Bool) : strOfNums (l.map sgn) = ones l := by
  unfold strOfNums ones
  congr 2
  rw [List.map_map]
  refine List.map_congr_left fun b _ => ?_
  cases b <;> rfl
def tok (N : Int) (s : ByteArray) : Bool := decide (0 ≤ N ∧ N ≤ 12 ∧ (s.size : Int) = 2 ^ N.toNat) && (List.range s.size).all fun (i : Nat) => bt s (i : Int) == 48 || bt s (i : Int) == 49
theorem tok_form {N : Int} {s : ByteArray} (h : tok N s = true) : ∃ (n : Nat) (l : List Bool), N = (n : Int) ∧ n ≤ 12 ∧ l.length = 2 ^ n ∧ s = ones l := by
  unfold tok at h
  simp only [Bool.and_eq_true, decide_eq_true_eq] at h
  obtain ⟨⟨h0, h1, h2⟩, h3⟩ := h
  obtain ⟨n, rfl⟩ := Int.eq_ofNat_of_zero_le h0
  have h2' : s.size = 2 ^ n := by
    rw [Int.toNat_natCast] at h2
    exact_mod_cast h2
  refine ⟨n, (List.range s.size).map fun (i : Nat) => decide (bt s (i : Int) = 49), rfl, by omega, by simp [h2'], ?_⟩
  apply data_inj
  apply List.ext_getElem?
  intro i
  rcases Nat.lt_or_ge i s.size with hi | hi
  · have hb := List.all_eq_true.1 h3 i (by simpa using hi)
    have e : s.data.toList[i]? = some s[i] := by
      rw [List.getElem?_eq_getElem (by simpa using hi)]
      rfl
    rw [e]
    have hv := bt_nat s i hi
    simp only [ones, List.map_map, List.getElem?_map, List.getElem?_range hi, Option.map_some, Function.comp]
    congr 1
    simp only [Bool.or_eq_true, beq_iff_eq] at hb
    have hd : ∀ c : UInt8, ((c.toNat : Int) = 48 → c = 48) ∧ ((c.toNat : Int) = 49 → c = 49) := fun c => ⟨fun h => UInt8.toNat_inj.1 (by have : c.toNat = 48 := by omega
                                                                                                                                         rw [this]; rfl), fun h => UInt8.toNat_inj.1 (by have : c.toNat = 49 := by omega
                                                                                                                                                                                         rw [this]; rfl)⟩
    rcases hb with hb | hb
    · have hc := (hd s[i]).1 (hv ▸ hb)
      simp [hb, hc]
    · have hc := (hd s[i]).2 (hv ▸ hb)
      simp [hb, hc]
  · rw [List.getElem?_eq_none (by simpa using hi), List.getElem?_eq_none (by simp [ones]; exact hi)]
theorem tok_ones {n : Nat} {l : List Bool} (hn : n ≤ 12) (hl : l.length = 2 ^ n) : tok (n : Int) (ones l) = true := by
  unfold tok
  rw [Bool.and_eq_true]
  refine ⟨decide_eq_true ⟨by omega, by omega, ?_⟩, List.all_eq_true.2 fun i hi => ?_⟩
  · rw [ones_size, hl, Int.toNat_natCast]
    norm_cast
  · have hi' : i < l.length := by rw [ones_size] at hi; simpa using hi
    rw [bt_ones l i hi']
    unfold sgn
    cases l.getD i false <;> rfl
theorem pow12 {n : Nat} (hn : n ≤ 12) : 2 ^ n ≤ 4096 := Nat.pow_le_pow_right (by decide) hn
theorem pow62 {n : Nat} (hn : n ≤ 61) : (2 : Int) ^ n ≤ 2305843009213693952 := by
  have h : 2 ^ n ≤ 2 ^ 61 := Nat.pow_le_pow_right (by decide) hn
  have h2 : ((2 ^ n : Nat) : Int) ≤ ((2 ^ 61 : Nat) : Int) := by exact_mod_cast h
  have h3 : ((2 ^ n : Nat) : Int) = (2 : Int) ^ n := by norm_cast
  omega
theorem pow_pos_ (n : Nat) : (1 : Int) ≤ 2 ^ n := by
  have h : 1 ≤ 2 ^ n := Nat.one_le_two_pow
  have h2 : ((1 : Nat) : Int) ≤ ((2 ^ n : Nat) : Int) := by exact_mod_cast h
  have h3 : ((2 ^ n : Nat) : Int) = (2 : Int) ^ n := by norm_cast
  omega
theorem pow2_eq (n : Nat) (hn : n ≤ 60) : ∀ k, n < k → spec_l01Pow2.f k (n : Int) = some ((2 : Int) ^ n) := by
  intro k hk
  unfold spec_l01Pow2.f
  refine rounds (fun k i => spec_l01Pow2.l0 k (n : Int) ((2 : Int) ^ i) (i : Int)) n _ ?_ ?_ k hk
  · intro k i hi
    simp only [spec_l01Pow2.l0]
    have h1 := pow62 (n := i + 1) (by omega)
    have h2 := pow_pos_ i
    rw [if_pos (by omega), w64s i (by omega), show (2 : Int) * 2 ^ i = 2 ^ (i + 1) from by rw [Int.pow_succ]; omega, w64 (by have := pow_pos_ (i + 1); omega) (by omega)]
  · intro k
    simp only [spec_l01Pow2.l0]
    rw [if_neg (by omega)]
theorem spec_TableOk_eq (N : Int) (s : ByteArray) (hs : s.size ≤ 1099511627776) : ∀ k, s.size + 20 < k → spec_TableOk.f k N s = some (tok N s) := by
  intro k hk
  obtain ⟨k, rfl⟩ : ∃ m, k = m + 1 := ⟨k - 1, by omega⟩
  unfold spec_TableOk.f spec_l01In.f
  by_cases h0 : N ≥ 0
  · rw [if_pos h0]
    by_cases h1 : N ≤ 12
    · obtain ⟨n, rfl⟩ := Int.eq_ofNat_of_zero_le h0
      simp only [h1, decide_true, Option.bind_some, if_true]
      rw [pow2_eq n (by omega) (k + 1) (by omega)]
      simp only [Option.bind_some, spec_TableOk.j0]
      by_cases h2 : (s.size : Int) = 2 ^ n
      · rw [if_neg (by simp [h2])]
        have h := rounds_all (fun k i => spec_TableOk.l0 k (i : Int) (n : Int) s) s.size (fun i => bt s i == 48 || bt s i == 49) true false ?_ ?_ ?_ k (by omega)
        · refine h.trans ?_
          unfold tok
          rw [decide_eq_true (⟨h0, h1, by rw [Int.toNat_natCast]; exact h2⟩ : 0 ≤ (n : Int) ∧ (n : Int) ≤ 12 ∧ (s.size : Int) = 2 ^ (n : Int).toNat), Bool.true_and]
          congr 1
          split <;> simp_all
        · intro k i hi hp
          simp only [spec_TableOk.l0]
          simp only [Bool.or_eq_true, beq_iff_eq] at hp
          rw [if_pos (by omega), if_pos (by omega), w64s i (by omega)]
          rcases hp with hp | hp
          · rw [if_pos hp]
          · rw [if_neg (by omega), if_pos hp]
        · intro k i hi hp
          simp only [spec_TableOk.l0]
          simp only [Bool.or_eq_false_iff, beq_eq_false_iff_ne] at hp
          rw [if_pos (by omega), if_pos (by omega), if_neg hp.1, if_neg hp.2]
        · intro k
          simp only [spec_TableOk.l0]
          rw [if_neg (by omega)]
      · rw [if_pos (by simpa using h2)]
        unfold tok
        rw [decide_eq_false (by rintro ⟨_, _, h⟩; rw [Int.toNat_natCast] at h; exact h2 h), Bool.false_and]
    · simp only [h1, decide_false, Option.bind_some]
      simp only [Bool.false_eq_true, if_false, spec_TableOk.j0, if_true]
      unfold tok
      rw [decide_eq_false (by omega), Bool.false_and]
  · rw [if_neg h0]
    simp only [Option.bind_some, Bool.false_eq_true, if_false, spec_TableOk.j0, if_true]
    unfold tok
    rw [decide_eq_false (by omega), Bool.false_and]
theorem shl_eq (n : Nat) (hn : n ≤ 60) : shl .i64 1 (n : Int) = (2 : Int) ^ n := by
  unfold shl
  rw [Int.toNat_natCast, show min n IntKind.i64.bits = n from by simp [IntKind.bits]; omega, Int.one_mul, IntKind.wrap_i64]
  have h1 := pow62 (n := n) (by omega)
  have h2 := pow_pos_ n
  omega
theorem impl_TableOk_eq (N : Int) (s : ByteArray) (hs : s.size ≤ 1099511627776) : ∀ k, s.size + 20 < k → impl_TableOk.f k N s = some (tok N s) := by
  intro k hk
  obtain ⟨k, rfl⟩ : ∃ m, k = m + 1 := ⟨k - 1, by omega⟩
  unfold impl_TableOk.f impl_within.f
  by_cases h0 : N ≥ 0
  · rw [if_pos h0]
    by_cases h1 : N ≤ 12
    · obtain ⟨n, rfl⟩ := Int.eq_ofNat_of_zero_le h0
      simp only [h1, decide_true, Option.bind_some, if_true]
      rw [u64_of (by omega) (by omega), if_pos (by omega), shl_eq n (by omega)]
      simp only [impl_TableOk.j0]
      by_cases h2 : (s.size : Int) = 2 ^ n
      · rw [if_neg (by simp [h2])]
        have h := rounds_all (fun k i => impl_TableOk.l0 k (s.size : Int) (i : Int) (n : Int) s) s.size (fun i => bt s i == 48 || bt s i == 49) true false ?_ ?_ ?_ k (by omega)
        · refine h.trans ?_
          unfold tok
          rw [decide_eq_true (⟨h0, h1, by rw [Int.toNat_natCast]; exact h2⟩ : 0 ≤ (n : Int) ∧ (n : Int) ≤ 12 ∧ (s.size : Int) = 2 ^ (n : Int).toNat), Bool.true_and]
          congr 1
          split <;> simp_all
        · intro k i hi hp
          simp only [impl_TableOk.l0]
          simp only [Bool.or_eq_true, beq_iff_eq] at hp
          rw [if_pos (by omega), if_pos (by omega), if_pos (by omega), w64s i (by omega)]
          rcases hp with hp | hp
          · rw [if_pos hp]
          · rw [if_neg (by omega), if_pos hp]
        · intro k i hi hp
          simp only [impl_TableOk.l0]
          simp only [Bool.or_eq_false_iff, beq_eq_false_iff_ne] at hp
          rw [if_pos (by omega), if_pos (by omega), if_pos (by omega), if_neg hp.1, if_neg hp.2]
        · intro k
          simp only [impl_TableOk.l0]
          rw [if_neg (by omega)]
      · rw [if_pos (by simpa using h2)]
        unfold tok
        rw [decide_eq_false (by rintro ⟨_, _, h⟩; rw [Int.toNat_natCast] at h; exact h2 h), Bool.false_and]
    · simp only [h1, decide_false, Option.bind_some]
      simp only [Bool.false_eq_true, if_false, impl_TableOk.j0, if_true]
      unfold tok
      rw [decide_eq_false (by omega), Bool.false_and]
  · rw [if_neg h0]
    simp only [Option.bind_some, Bool.false_eq_true, if_false, impl_TableOk.j0, if_true]
    unfold tok
    rw [decide_eq_false (by omega), Bool.false_and]
end Go.Proofs.Ythipjoioicmcnaa.Pure
/- On which bits a table depends. Conditions: each lemma's own hypotheses. -/

set_option linter.unusedSimpArgs false
set_option linter.unusedVariables false
namespace Go.Proofs.Ythipjoioicmcnaa.Pure
open Go.RowKit Go.Proofs.Ythipjoioicmcnaa.G Go.Proofs.YthipjoioicmcnaaW.PrintWords Go.Proofs.YthipjoioicmcnaaW.PrintLast Go.Proofs.YthipjoioicmcnaaW.PrintMore

/-- Does place q's value differ from that with the bit of weight t set? -/
def diffAt (l : List Bool) (t q : Nat) : Bool := q / t % 2 == 0 && l.getD q false != l.getD (q + t) false
/-- Does the table depend on bit i? -/
def needsB (n : Nat) (l : List Bool) (i : Nat) : Bool := !((List.range (2 ^ n)).all fun q => !diffAt l (2 ^ (n - 1 - i)) q)
theorem half_lt {t m q : Nat} (ht : 0 < t) (h : q < t * (2 * m)) (he : q / t % 2 = 0) : q + t < t * (2 * m) := by
  have h1 : q / t < 2 * m := by rw [Nat.div_lt_iff_lt_mul ht, Nat.mul_comm]; exact h
  have h2 : (q + t) / t < 2 * m := by rw [Nat.add_div_right _ ht]; omega
  rw [Nat.div_lt_iff_lt_mul ht, Nat.mul_comm] at h2
  exact h2
theorem pow_split {n i : Nat} (hi : i < n) : 2 ^ n = 2 ^ (n - 1 - i) * (2 * 2 ^ i) := by
  rw [← Nat.mul_assoc, Nat.mul_comm _ 2, ← Nat.pow_succ', ← Nat.pow_add]
  congr 1
  omega
theorem and_pow (q j : Nat) : (q &&& 2 ^ j = 0) ↔ q / 2 ^ j % 2 = 0 := by
  have hb : q.testBit j = decide (q / 2 ^ j % 2 = 1) := Nat.testBit_eq_decide_div_mod_eq
  constructor
  · intro h
    have : (q &&& 2 ^ j).testBit j = false := by rw [h]; simp
    rw [Nat.testBit_and, Nat.testBit_two_pow_self, Bool.and_true, hb] at this
    simp at this
    omega
  · intro h
    apply Nat.eq_of_testBit_eq
    intro x
    rw [Nat.testBit_and, Nat.testBit_two_pow, Nat.zero_testBit]
    by_cases e : j = x
    · subst e
      rw [hb]
      simp [h]
    · simp [e]
theorem or_pow (q j : Nat) (h : q / 2 ^ j % 2 = 0) : q ||| 2 ^ j = q + 2 ^ j := by
  have hp : 0 < 2 ^ j := Nat.two_pow_pos j
  have hr : q % 2 ^ j < 2 ^ j := Nat.mod_lt _ hp
  have e1 : q = 2 ^ j * (q / 2 ^ j) + q % 2 ^ j := (Nat.div_add_mod q (2 ^ j)).symm
  have e2 : 2 ^ j * (q / 2 ^ j) = 2 ^ (j + 1) * (q / 2 ^ j / 2) := by
    rw [Nat.pow_succ, Nat.mul_assoc]
    congr 1
    omega
  have e3 : 2 ^ (j + 1) * (q / 2 ^ j / 2) + 2 ^ j = 2 ^ (j + 1) * (q / 2 ^ j / 2) ||| 2 ^ j := Nat.two_pow_add_eq_or_of_lt (by rw [Nat.pow_succ]; omega) _
  have e4 := Nat.two_pow_add_eq_or_of_lt hr (q / 2 ^ j)
  have e5 := Nat.two_pow_add_eq_or_of_lt hr (q / 2 ^ j + 1)
  rw [Nat.mul_add, Nat.mul_one] at e5
  have e6 : q + 2 ^ j = 2 ^ j * (q / 2 ^ j) + 2 ^ j + q % 2 ^ j := by omega
  rw [e6, e5, e2, e3, ← e2, Nat.or_assoc, Nat.or_comm (2 ^ j), ← Nat.or_assoc, ← e4, ← e1]
theorem wraps_i64 (n : Int) (h₀ : 0 ≤ n) (h₁ : n < 2 ^ 62) : IntKind.i64.wrap n = n := by rw [IntKind.wrap_i64]; omega
theorem and_i64 (a b : Nat) (ha : a < 2 ^ 62) (hb : b < 2 ^ 62) : Go.bits .and .i64 (a : Int) (b : Int) = ((a &&& b : Nat) : Int) := (bits_nat .i64 62 (by decide) wraps_i64 a b ha hb).1
theorem or_i64 (a b : Nat) (ha : a < 2 ^ 62) (hb : b < 2 ^ 62) : Go.bits .or .i64 (a : Int) (b : Int) = ((a ||| b : Nat) : Int) := (bits_nat .i64 62 (by decide) wraps_i64 a b ha hb).2
theorem sgn_inj {a b : Bool} : sgn a = sgn b ↔ a = b := by cases a <;> cases b <;> decide
theorem pow_cast (j : Nat) : (2 : Int) ^ j = ((2 ^ j : Nat) : Int) := by norm_cast
/-- The numbers of the bits below i on which the table depends (or doesn't), ascending. -/
def needsTo (want : Bool) (n : Nat) (l : List Bool) (i : Nat) : List Int := ((List.range i).filter fun j => needsB n l j == want).map fun (j : Nat) => (j : Int)
theorem needsTo_succ (want : Bool) (n : Nat) (l : List Bool) (i : Nat) : needsTo want n l (i + 1) = if needsB n l i == want then needsTo want n l i ++ [(i : Int)] else needsTo want n l i := by
  unfold needsTo
  rw [List.range_succ, List.filter_append, List.map_append]
  by_cases h : needsB n l i == want
  · rw [if_pos h]
    simp [h]
  · rw [if_neg h]
    simp [h]
theorem needsTo_len (want : Bool) (n : Nat) (l : List Bool) (i : Nat) : (needsTo want n l i).length ≤ i := by
  unfold needsTo
  rw [List.length_map]
  exact Nat.le_trans (List.length_filter_le _ _) (by simp)
theorem ones_back (l : List Bool) : (ones l).data.toList.map (fun c => c == 49) = l := by
  simp only [ones, List.map_map]
  exact (List.map_congr_left (fun b _ => by cases b <;> rfl)).trans (List.map_id l)
end Go.Proofs.Ythipjoioicmcnaa.Pure
/- What the reference's draws hand out: always something, within bounds. Conditions: each lemma's own hypotheses. -/
set_option linter.unusedSimpArgs false
set_option linter.unusedVariables false
namespace Go.Proofs.Ythipjoioicmcnaa.Pure
open Go.RowKit Go.Proofs.Ythipjoioicmcnaa.G Go.Proofs.YthipjoioicmcnaaW.PrintWords Go.Proofs.YthipjoioicmcnaaW.PrintLast Go.Proofs.YthipjoioicmcnaaW.PrintMore

theorem and255 (x : Int) : 0 ≤ Go.bits .and .i64 x 255 ∧ Go.bits .and .i64 x 255 ≤ 255 := by
  simp only [Go.bits, BitVec.toNat_and]
  have h : (BitVec.ofInt IntKind.i64.bits x).toNat &&& (BitVec.ofInt IntKind.i64.bits 255).toNat ≤ 255 := Nat.le_trans Nat.and_le_right (by decide)
  rw [wraps_i64 _ (by omega) (by omega)]
  omega
/-- The place in the draw's bytes is one of theirs, or their end. -/
def stOk (b : List Int) (i : Int) : Prop := 0 ≤ i ∧ i ≤ b.length ∧ b.length ≤ 1099511627776
theorem byte_ok {b : List Int} {i : Int} (h : Int) (hi : stOk b i) : ∃ v i' h', spec_l01Byte.f b i h = some (v, i', h') ∧ 0 ≤ v ∧ v ≤ 255 ∧ stOk b i' := by
  unfold spec_l01Byte.f
  obtain ⟨h0, h1, h2⟩ := hi
  by_cases hc : i < (b.length : Int)
  · rw [if_pos hc, if_pos h0]
    exact ⟨_, _, _, rfl, (and255 _).1, (and255 _).2, by rw [w64 (by omega) (by omega)]; exact ⟨by omega, by omega, h2⟩⟩
  · rw [if_neg hc]
    exact ⟨_, _, _, rfl, (and255 _).1, (and255 _).2, h0, h1, h2⟩
theorem below_ok {b : List Int} {i : Int} (h a : Int) (hi : stOk b i) (h0 : 0 < a) (h1 : a ≤ 256) : ∃ v i' h', spec_l01Below.f b i h a = some (v, i', h') ∧ 0 ≤ v ∧ v < a ∧ stOk b i' := by
  unfold spec_l01Below.f
  obtain ⟨v, i', h', e, hv0, hv1, hi'⟩ := byte_ok h hi
  rw [if_neg (by omega), if_pos h1, e, Option.bind_some, if_neg (by omega)]
  refine ⟨_, _, _, rfl, ?_, ?_, hi'⟩
  · simp only; rw [Int.tmod_eq_emod_of_nonneg hv0]; exact Int.emod_nonneg _ (by omega)
  · simp only; rw [Int.tmod_eq_emod_of_nonneg hv0]; exact Int.emod_lt_of_pos _ h0
theorem once_ok {b : List Int} {i : Int} (h a : Int) (hi : stOk b i) (h0 : 0 < a) (h1 : a ≤ 256) : ∃ t i' h', spec_l01Once.f b i h a = some (t, i', h') ∧ stOk b i' := by
  unfold spec_l01Once.f
  obtain ⟨v, i', h', e, _, _, hi'⟩ := below_ok h a hi h0 h1
  rw [e, Option.bind_some]
  exact ⟨_, _, _, rfl, hi'⟩
theorem pickInt_ok {b : List Int} {i : Int} (h : Int) (l : List Int) (hi : stOk b i) (h0 : 0 < l.length) (h1 : l.length ≤ 256) : ∃ v i' h', spec_l01PickInt.f b i h l = some (v, i', h') ∧ v ∈ l ∧ stOk b i' := by
  unfold spec_l01PickInt.f
  obtain ⟨v, i', h', e, hv0, hv1, hi'⟩ := below_ok h (l.length : Int) hi (by omega) (by omega)
  rw [e, Option.bind_some]
  obtain ⟨n, rfl⟩ := Int.eq_ofNat_of_zero_le hv0
  rw [if_pos (by simp), if_pos (by simpa using hv1), rd_nat, getD_lt l n 0 (by omega)]
  exact ⟨_, _, _, rfl, List.getElem_mem _, hi'⟩
theorem new_ok (b : List Int) (hb : b.length ≤ 1099511627776) : ∀ k, b.length < k → ∃ h, spec_l01New.f k b = some (b, 0, h) := by
  have H : ∀ d (i : Nat) h k, i + d = b.length → d < k → ∃ h', spec_l01New.l0 k b h (i : Int) = some (b, 0, h') := by
    intro d
    induction d with
    | zero =>
      intro i h k hi hk
      obtain ⟨k, rfl⟩ : ∃ m, k = m + 1 := ⟨k - 1, by omega⟩
      simp only [spec_l01New.l0]
      rw [if_neg (by omega)]
      exact ⟨_, rfl⟩
    | succ d ih =>
      intro i h k hi hk
      obtain ⟨k, rfl⟩ : ∃ m, k = m + 1 := ⟨k - 1, by omega⟩
      simp only [spec_l01New.l0]
      rw [if_pos (by omega)]
      by_cases h4 : (i : Int) < 4000
      · rw [if_pos h4, if_pos (by omega), w64s i (by omega)]
        exact ih (i + 1) _ k (by omega) (by omega)
      · rw [if_neg h4]
        exact ⟨_, rfl⟩
  intro k hk
  exact H b.length 0 _ k (by omega) hk
theorem st_zero {b : List Int} (hb : b.length ≤ 1099511627776) : stOk b 0 := ⟨by omega, by omega, hb⟩
theorem table_fill (n : Int) (b : List Int) (i h : Int) (xs : List Int) (hx : xs.length ≤ 4096) : ∀ k, xs.length < k → spec_l06Table.l1 k n xs 0 b i h = some (n, ones (List.replicate xs.length true), i, h) := by
  intro k hk
  rw [← strOfNums_ones, List.map_replicate]
  have h1 := rounds (fun k j => spec_l06Table.l1 k n ((List.replicate xs.length (sgn true)).take j ++ xs.drop j) (j : Int) b i h) xs.length (n, strOfNums (List.replicate xs.length (sgn true)), i, h) ?_ ?_ k hk
  · simpa using h1
  · intro k j hj
    simp only [spec_l06Table.l1]
    rw [if_pos (by simp; omega), if_pos (by omega), w64s j (by omega), Int.toNat_natCast, show (49 : Int) = sgn true from rfl, set_front (List.replicate xs.length (sgn true)) xs j (sgn true) (by simp) hj (by simp [hj])]
  · intro k
    simp only [spec_l06Table.l1]
    rw [if_neg (by simp), List.take_of_length_le (by simp)]
    simp
theorem bit_sgn {v : Int} (h0 : 0 ≤ v) (h1 : v < 2) : wrap64 (48 + v) % 256 = sgn (v == 1) := by
  rcases (show v = 0 ∨ v = 1 by omega) with h | h <;> subst h <;> decide +kernel
theorem table_ok (n : Nat) (hn : n ≤ 12) {b : List Int} {i : Int} (h : Int) (hi : stOk b i) : ∀ k, 8300 < k → ∃ l i' h', spec_l06Table.f k b i h (n : Int) = some ((n : Int), ones l, i', h') ∧ l.length = 2 ^ n ∧ stOk b i' := by
  have hp := pow12 hn
  have H : ∀ d (j : Nat) (acc : List Bool) (m i h : Int) k, j + d = 2 ^ n → acc.length = j → stOk b i → d + 4100 < k → ∃ l i' h', spec_l06Table.l0 k (n : Int) (acc.map sgn) m (j : Int) b i h = some ((n : Int), ones l, i', h') ∧ l.length = 2 ^ n ∧ stOk b i' := by
    intro d
    induction d with
    | zero =>
      intro j acc m i h k hj ha hi hk
      obtain ⟨k, rfl⟩ : ∃ m, k = m + 1 := ⟨k - 1, by omega⟩
      simp only [spec_l06Table.l0]
      rw [pow2_eq n (by omega) k (by omega), Option.bind_some, if_neg (by rw [pow_cast]; omega)]
      obtain ⟨t, i', h', e, hi'⟩ := once_ok h 8 hi (by omega) (by omega)
      rw [e, Option.bind_some]
      cases t
      · rw [if_neg (by simp), strOfNums_ones]
        exact ⟨acc, _, _, rfl, by omega, hi'⟩
      · rw [if_pos rfl, table_fill _ _ _ _ _ (by simp; omega) k (by simp; omega)]
        exact ⟨_, _, _, rfl, by simp; omega, hi'⟩
    | succ d ih =>
      intro j acc m i h k hj ha hi hk
      obtain ⟨k, rfl⟩ : ∃ m, k = m + 1 := ⟨k - 1, by omega⟩
      have next : ∀ (v : Bool) (i h : Int), stOk b i → ∃ l i' h', (if (acc.map sgn).length < 140737488355328 then spec_l06Table.l0 k (n : Int) (acc.map sgn ++ [sgn v]) m (wrap64 ((j : Int) + 1)) b i h else none) = some ((n : Int), ones l, i', h') ∧ l.length = 2 ^ n ∧ stOk b i' := by
        intro v i h hi
        rw [if_pos (by simp; omega), w64s j (by omega), show acc.map sgn ++ [sgn v] = (acc ++ [v]).map sgn from by simp]
        exact ih (j + 1) (acc ++ [v]) m i h k (by omega) (by simp; omega) hi (by omega)
      simp only [spec_l06Table.l0]
      rw [pow2_eq n (by omega) k (by omega), Option.bind_some, if_pos (by rw [pow_cast]; omega)]
      obtain ⟨v, i', h', e, hv0, hv1, hi'⟩ := below_ok h 2 hi (by omega) (by omega)
      rw [e, Option.bind_some]
      simp only
      rw [bit_sgn hv0 hv1]
      by_cases h0 : m = 0
      · rw [if_pos h0]
        have hb2 : 0 ≤ Int.tmod (wrap64 (Int.tdiv (j : Int) 2)) 2 ∧ Int.tmod (wrap64 (Int.tdiv (j : Int) 2)) 2 < 2 := by
          rw [Int.tdiv_eq_ediv_of_nonneg (by omega), w64 (by omega) (by omega), Int.tmod_eq_emod_of_nonneg (by omega)]
          omega
        rw [bit_sgn hb2.1 hb2.2]
        exact next _ _ _ hi'
      · rw [if_neg h0]
        by_cases h1 : m = 1
        · rw [if_pos h1]
          obtain ⟨t, i2, h2, e2, hi2⟩ := once_ok h' 2 hi' (by omega) (by omega)
          rw [e2, Option.bind_some]
          cases t
          · rw [if_neg (by simp)]
            exact next _ _ _ hi2
          · rw [if_pos rfl, show (48 : Int) = sgn false from rfl]
            exact next _ _ _ hi2
        · rw [if_neg h1]
          exact next _ _ _ hi'
  intro k hk
  unfold spec_l06Table.f
  obtain ⟨m, i', h', e, _, _, hi'⟩ := below_ok h 4 hi (by omega) (by omega)
  rw [e, Option.bind_some]
  exact H (2 ^ n) 0 [] m i' h' k (by omega) rfl hi' (by omega)
theorem any_ok {b : List Int} {i : Int} (h : Int) (hi : stOk b i) : ∀ k, 8300 < k → ∃ N s i' h', spec_l06Any.f k b i h = some (N, s, i', h') ∧ -1 ≤ N ∧ N ≤ 13 ∧ s.size ≤ 4096 ∧ stOk b i' := by
  intro k hk
  unfold spec_l06Any.f
  obtain ⟨n, i1, h1, e1, hn0, hn1, hi1⟩ := below_ok h 6 hi (by omega) (by omega)
  obtain ⟨n, rfl⟩ := Int.eq_ofNat_of_zero_le hn0
  obtain ⟨l, i2, h2, e2, hl, hi2⟩ := table_ok n (by omega) h1 hi1 k hk
  obtain ⟨v, i3, h3, e3, _, _, hi3⟩ := below_ok h2 14 hi2 (by omega) (by omega)
  have hp := pow12 (n := n) (by omega)
  rw [e1, Option.bind_some, e2, Option.bind_some, e3, Option.bind_some]
  simp only
  by_cases h0 : v = 0
  · rw [if_pos h0]
    obtain ⟨w, i4, h4, e4, hw, hi4⟩ := pickInt_ok h3 [-1, 13, wrap64 ((n : Int) + 1)] hi3 (by simp) (by simp)
    rw [e4, Option.bind_some]
    rw [w64s n (by omega)] at hw
    simp only [List.mem_cons, List.not_mem_nil, or_false] at hw
    exact ⟨_, _, _, _, rfl, by first | omega | (simp only; omega), by first | omega | (simp only; omega), by rw [ones_size]; omega, hi4⟩
  · rw [if_neg h0]
    by_cases h1 : v = 1
    · have hpos : 0 < 2 ^ n := Nat.two_pow_pos n
      have hsz : ((ones l).extract 1 (ones l).size).size = l.length - 1 := by rw [ByteArray.size_extract, ones_size]; omega
      rw [if_pos h1, if_pos (by rw [ones_size]; omega), if_pos (by rw [hsz]; omega)]
      refine ⟨_, _, _, _, rfl, by first | omega | (simp only; omega), by first | omega | (simp only; omega), ?_, hi3⟩
      rw [ByteArray.size_append, hsz]
      show _ + 1 ≤ _
      omega
    · rw [if_neg h1]
      exact ⟨_, _, _, _, rfl, by first | omega | (simp only; omega), by first | omega | (simp only; omega), by rw [ones_size]; omega, hi3⟩
theorem drawTableAnd_ok (b : List Int) (hb : b.length ≤ 1099511627776) : ∀ k, b.length + 8301 < k → ∃ N s M t, spec_DrawTableAnd.f k b = some (N, s, M, t) ∧ (-1 ≤ N ∧ N ≤ 13 ∧ s.size ≤ 4096) ∧ (-1 ≤ M ∧ M ≤ 13 ∧ t.size ≤ 4096) := by
  intro k hk
  obtain ⟨k, rfl⟩ : ∃ m, k = m + 1 := ⟨k - 1, by omega⟩
  unfold spec_DrawTableAnd.f spec_l06Two.f
  obtain ⟨h, e⟩ := new_ok b hb (k + 1) (by omega)
  obtain ⟨N, s, i1, h1, e1, hN0, hN1, hs, hi1⟩ := any_ok h (st_zero hb) (k + 1) (by omega)
  obtain ⟨t, i2, h2, e2, hi2⟩ := once_ok h1 4 hi1 (by omega) (by omega)
  rw [e, Option.bind_some, e1, Option.bind_some, e2, Option.bind_some]
  simp only
  have fin : ∀ x : Bool, (x = false → 0 ≤ N ∧ N ≤ 6) → ∃ N' s' M' t', (spec_l06Two.j0 (k + 1) x b i2 h2 N s).bind (fun bt459 => some (bt459.1, bt459.2.1, bt459.2.2.1, bt459.2.2.2)) = some (N', s', M', t') ∧ (-1 ≤ N' ∧ N' ≤ 13 ∧ s'.size ≤ 4096) ∧ (-1 ≤ M' ∧ M' ≤ 13 ∧ t'.size ≤ 4096) := by
    intro x hx
    simp only [spec_l06Two.j0]
    cases x
    · obtain ⟨hx0, hx1⟩ := hx rfl
      obtain ⟨n, rfl⟩ := Int.eq_ofNat_of_zero_le hx0
      obtain ⟨l, i3, h3, e3, hl, _⟩ := table_ok n (by omega) h2 hi2 k (by omega)
      have hp := pow12 (n := n) (by omega)
      rw [if_neg (by simp), e3, Option.bind_some, Option.bind_some]
      exact ⟨_, _, _, _, rfl, ⟨hN0, hN1, hs⟩, by first | omega | (simp only; omega), by first | omega | (simp only; omega), by rw [ones_size]; omega⟩
    · obtain ⟨M, u, i3, h3, e3, hM0, hM1, hu, _⟩ := any_ok h2 hi2 k (by omega)
      rw [if_pos rfl, e3, Option.bind_some, Option.bind_some]
      exact ⟨_, _, _, _, rfl, ⟨hN0, hN1, hs⟩, hM0, hM1, hu⟩
  cases t
  · rw [if_neg (by simp)]
    unfold spec_l01In.f
    by_cases h0 : N ≥ 0
    · rw [if_pos h0, Option.bind_some]
      exact fin _ (fun h => ⟨h0, by simpa using h⟩)
    · rw [if_neg h0, Option.bind_some]
      exact fin _ (fun h => by simp at h)
  · rw [if_pos rfl]
    exact fin true (fun h => by simp at h)
end Go.Proofs.Ythipjoioicmcnaa.Pure
/- Tables put together value by value, the program's and the reference's. Conditions: each lemma's own hypotheses. -/
set_option linter.unusedSimpArgs false
set_option linter.unusedVariables false
namespace Go.Proofs.Ythipjoioicmcnaa.Pure
open Go.RowKit Go.Proofs.Ythipjoioicmcnaa.G Go.Proofs.YthipjoioicmcnaaW.PrintWords Go.Proofs.YthipjoioicmcnaaW.PrintLast Go.Proofs.YthipjoioicmcnaaW.PrintMore

/-- The flags of a table's values. -/
def flags (s : ByteArray) : List Bool := s.data.toList.map fun c => c == 49
theorem flags_ones (l : List Bool) : flags (ones l) = l := by
  unfold flags
  simp only [ones, List.map_map]
  exact (List.map_congr_left (fun b _ => by cases b <;> rfl)).trans (List.map_id l)
theorem each_eq (N : Int) (s : ByteArray) (p : Int → Option Bool) (g : Nat → Bool) (hs : s.size ≤ 1099511627776) (hp : ∀ i : Nat, i < s.size → p (i : Int) = some (g i)) : ∀ k, s.size < k → impl_Table_each.f k N s p = some (N, ones ((List.range s.size).map g)) := by
  intro k hk
  unfold impl_Table_each.f
  rw [if_pos (by omega), if_pos (by omega), Option.bind_some, Int.toNat_natCast, List.length_replicate, ← strOfNums_ones]
  have hpl : (((List.range s.size).map g).map sgn).length = (List.replicate s.size (0 : Int)).length := by simp
  have h := rounds (fun k i => impl_Table_each.l0 p k ((((List.range s.size).map g).map sgn).take i ++ (List.replicate s.size (0 : Int)).drop i) (s.size : Int) (i : Int) N s) s.size (N, strOfNums (((List.range s.size).map g).map sgn)) ?_ ?_ k hk
  · simpa using h
  · intro k i hi
    have hs2 : impl_sign.f (if g i then 1 else 0) = some (sgn (g i)) := by cases g i <;> decide +kernel
    have hb : impl_bit.f (g i) = some (if g i then 1 else 0) := by cases g i <;> rfl
    simp only [impl_Table_each.l0]
    rw [if_pos (by omega), hp i hi, Option.bind_some, hb, Option.bind_some, hs2, Option.bind_some, if_pos (by omega), if_pos (by simp; omega), w64s i (by omega), Int.toNat_natCast, set_front _ (List.replicate s.size (0 : Int)) i (sgn (g i)) hpl (by simpa using hi) (by simp [hi])]
  · intro k
    simp only [impl_Table_each.l0]
    rw [if_neg (by omega), List.take_of_length_le (by simp)]
    simp
/-- The table of what is not. -/
def notT (N : Int) (s : ByteArray) : Int × ByteArray := if tok N s then (N, ones ((flags s).map not)) else (0, ⟨#[]⟩)
theorem range_getD (l : List Bool) (f : Bool → Bool) : (List.range l.length).map (fun i => f (l.getD i false)) = l.map f := by
  apply List.ext_getElem
  · simp
  · intro i h1 h2
    simp only [List.getElem_map, List.getElem_range]
    rw [getD_lt l i false (by simpa using h1)]
theorem impl_TableNot_eq (N : Int) (s : ByteArray) (hs : s.size ≤ 1099511627776) : ∀ k, s.size + 20 < k → impl_TableNot.f k N s = some (notT N s) := by
  intro k hk
  unfold impl_TableNot.f notT
  rw [impl_TableOk_eq N s hs k hk, Option.bind_some]
  cases ht : tok N s with
  | false => rfl
  | true =>
    obtain ⟨n, l, rfl, hn, hl, rfl⟩ := tok_form ht
    rw [if_pos rfl, if_pos rfl, each_eq (n : Int) (ones l) _ (fun i => !(l.getD i false)) hs ?_ k (by omega), Option.bind_some, flags_ones, ones_size, range_getD l not]
    intro i hi
    rw [ones_size] at hi
    unfold impl_TableNot_1.f
    rw [if_pos (by omega), if_pos (by rw [ones_size]; omega), bt_ones l i hi]
    cases l.getD i false <;> rfl
/-- Two tables put together, value by value. -/
def bothT (f : Bool → Bool → Bool) (N : Int) (s : ByteArray) (M : Int) (t : ByteArray) : Int × ByteArray × Bool := if tok N s && tok M t && (N == M) then (N, ones (List.zipWith f (flags s) (flags t)), true) else (0, ⟨#[]⟩, false)
theorem range_zip (a b : List Bool) (f : Bool → Bool → Bool) (h : a.length = b.length) : (List.range a.length).map (fun i => f (a.getD i false) (b.getD i false)) = List.zipWith f a b := by
  apply List.ext_getElem
  · simp [h]
  · intro i h1 h2
    have h3 : i < a.length := by simpa using h1
    simp only [List.getElem_map, List.getElem_range, List.getElem_zipWith]
    rw [getD_lt a i false h3, getD_lt b i false (by omega)]
theorem alike_eq (N : Int) (s : ByteArray) (M : Int) (t : ByteArray) (hs : s.size ≤ 1099511627776) (ht : t.size ≤ 1099511627776) : ∀ k, s.size + t.size + 20 < k → impl_alike.f k N s M t = some (tok N s && tok M t && (N == M)) := by
  intro k hk
  unfold impl_alike.f
  rw [impl_TableOk_eq N s hs k (by omega), Option.bind_some]
  cases tok N s with
  | false => rfl
  | true =>
    rw [if_pos rfl, impl_TableOk_eq M t ht k (by omega), Option.bind_some]
    cases tok M t <;> rfl
theorem same_len {n m : Nat} {a b : List Bool} (ha : a.length = 2 ^ n) (hb : b.length = 2 ^ m) (h : (n : Int) = (m : Int)) : a.length = b.length := by
  have : n = m := by omega
  rw [ha, hb, this]
theorem impl_TableAnd_eq (N : Int) (s : ByteArray) (M : Int) (t : ByteArray) (hs : s.size ≤ 1099511627776) (ht : t.size ≤ 1099511627776) : ∀ k, s.size + t.size + 20 < k → impl_TableAnd.f k N s M t = some (bothT and N s M t) := by
  intro k hk
  unfold impl_TableAnd.f bothT
  rw [alike_eq N s M t hs ht k hk, Option.bind_some]
  cases h : tok N s && tok M t && (N == M) with
  | false => rfl
  | true =>
    simp only [Bool.and_eq_true, beq_iff_eq] at h
    obtain ⟨n, l, rfl, hn, hl, rfl⟩ := tok_form h.1.1
    obtain ⟨m, l', rfl, hm, hl', rfl⟩ := tok_form h.1.2
    have hll := same_len hl hl' h.2
    rw [if_pos rfl, if_pos rfl, each_eq (n : Int) (ones l) _ (fun i => and (l.getD i false) (l'.getD i false)) hs ?_ k (by omega), Option.bind_some, flags_ones, flags_ones, ones_size, range_zip l l' and hll]
    intro i hi
    rw [ones_size] at hi
    unfold impl_TableAnd_1.f
    rw [if_pos (by omega), if_pos (by rw [ones_size]; omega), bt_ones l i hi, bt_ones l' i (by omega)]
    cases l.getD i false
    · rfl
    · rw [if_pos (show sgn true = 49 from rfl), if_pos (by rw [ones_size]; omega)]
      cases l'.getD i false <;> rfl
theorem impl_TableXor_eq (N : Int) (s : ByteArray) (M : Int) (t : ByteArray) (hs : s.size ≤ 1099511627776) (ht : t.size ≤ 1099511627776) : ∀ k, s.size + t.size + 20 < k → impl_TableXor.f k N s M t = some (bothT xor N s M t) := by
  intro k hk
  unfold impl_TableXor.f bothT
  rw [alike_eq N s M t hs ht k hk, Option.bind_some]
  cases h : tok N s && tok M t && (N == M) with
  | false => rfl
  | true =>
    simp only [Bool.and_eq_true, beq_iff_eq] at h
    obtain ⟨n, l, rfl, hn, hl, rfl⟩ := tok_form h.1.1
    obtain ⟨m, l', rfl, hm, hl', rfl⟩ := tok_form h.1.2
    have hll := same_len hl hl' h.2
    rw [if_pos rfl, if_pos rfl, each_eq (n : Int) (ones l) _ (fun i => xor (l.getD i false) (l'.getD i false)) hs ?_ k (by omega), Option.bind_some, flags_ones, flags_ones, ones_size, range_zip l l' xor hll]
    intro i hi
    rw [ones_size] at hi
    unfold impl_TableXor_1.f
    rw [if_pos (by omega), if_pos (by rw [ones_size]; omega), if_pos (by rw [ones_size]; omega), bt_ones l i hi, bt_ones l' i (by omega)]
    cases l.getD i false <;> cases l'.getD i false <;> rfl
theorem l06Both_eq (N : Int) (s : ByteArray) (M : Int) (t : ByteArray) (b : Bool) (hs : s.size ≤ 1099511627776) (ht : t.size ≤ 1099511627776) : ∀ k, s.size + t.size + 20 < k → spec_l06Both.f k N s M t b = some (bothT (if b then and else xor) N s M t) := by
  intro k hk
  obtain ⟨k, rfl⟩ : ∃ m, k = m + 1 := ⟨k - 1, by omega⟩
  unfold spec_l06Both.f bothT
  rw [spec_TableOk_eq N s hs (k + 1) (by omega), Option.bind_some]
  cases h1 : tok N s with
  | false => simp [spec_l06Both.j0]
  | true =>
    rw [if_pos rfl, spec_TableOk_eq M t ht (k + 1) (by omega), Option.bind_some]
    cases h2 : tok M t with
    | false => simp [spec_l06Both.j0]
    | true =>
      obtain ⟨n, l, rfl, hn, hl, rfl⟩ := tok_form h1
      obtain ⟨m, l', rfl, hm, hl', rfl⟩ := tok_form h2
      rw [if_pos rfl]
      simp only [spec_l06Both.j0]
      by_cases hnm : (n : Int) = (m : Int)
      · have hll := same_len hl hl' hnm
        rw [if_neg (by simp [hnm]), if_pos (by simp [hnm]), flags_ones, flags_ones, ← range_zip l l' _ hll]
        generalize hg : (fun i => (if b then and else xor) (l.getD i false) (l'.getD i false)) = g
        have h := rounds (fun k i => spec_l06Both.l0 k b ((((List.range l.length).map g).map sgn).take i) (i : Int) (n : Int) (ones l) (m : Int) (ones l')) l.length ((n : Int), ones ((List.range l.length).map g), true) ?_ ?_ k (by rw [ones_size] at hk; omega)
        · simpa using h
        · intro k i hi
          have hp := pow12 hn
          have e : (((List.range l.length).map g).map sgn).getD i 0 = sgn (g i) := by
            rw [getD_lt _ i 0 (by simpa using hi)]
            simp
          simp only [spec_l06Both.l0]
          rw [if_pos (by rw [ones_size]; omega), if_pos (by omega), if_pos (by rw [ones_size]; omega), bt_ones l i hi, bt_ones l' i (by omega), w64s i (by omega), take_succ_getD (((List.range l.length).map g).map sgn) i 0 (by simpa using hi), e, ← hg]
          cases b
          · rw [if_neg (by decide), if_pos (by simp; omega)]
            congr 2
            exact (by decide +kernel : ∀ p q : Bool, [Go.bits Go.BinOp.xor Go.IntKind.u8 ((48 + (sgn p - 48)) % 256) ((sgn q - 48) % 256)] = [sgn ((if false = true then and else xor) p q)]) _ _
          · rw [if_pos rfl, if_pos (by simp; omega)]
            congr 2
            exact (by decide +kernel : ∀ p q : Bool, [(48 + Go.bits Go.BinOp.and Go.IntKind.u8 ((sgn p - 48) % 256) ((sgn q - 48) % 256)) % 256] = [sgn ((if true = true then and else xor) p q)]) _ _
        · intro k
          simp only [spec_l06Both.l0]
          rw [if_neg (by rw [ones_size]; omega), List.take_of_length_le (by simp), strOfNums_ones]
      · rw [if_pos (by simpa using hnm), if_neg (by simpa using hnm)]
end Go.Proofs.Ythipjoioicmcnaa.Pure
/- How many of a table's values are 1, and whether they are all the same. Conditions: each lemma's own hypotheses. -/
set_option linter.unusedSimpArgs false
set_option linter.unusedVariables false
namespace Go.Proofs.Ythipjoioicmcnaa.Pure
open Go.RowKit Go.Proofs.Ythipjoioicmcnaa.G Go.Proofs.YthipjoioicmcnaaW.PrintWords Go.Proofs.YthipjoioicmcnaaW.PrintLast Go.Proofs.YthipjoioicmcnaaW.PrintMore

theorem ones_data (l : List Bool) : (ones l).data.toList = l.map fun b => if b then (49 : UInt8) else 48 := by simp [ones]
theorem contains1 (l : List Bool) : (ones l).data.toList.contains 49 = l.contains true := by
  rw [ones_data]
  induction l with
  | nil => rfl
  | cons b l ih =>
    rw [List.map_cons, List.contains_cons, List.contains_cons, ih]
    congr 1
    cases b <;> rfl
theorem contains0 (l : List Bool) : (ones l).data.toList.contains 48 = l.contains false := by
  rw [ones_data]
  induction l with
  | nil => rfl
  | cons b l ih =>
    rw [List.map_cons, List.contains_cons, List.contains_cons, ih]
    congr 1
    cases b <;> rfl
theorem count1 (l : List Bool) : (ones l).data.toList.count 49 = l.count true := by
  rw [ones_data]
  induction l with
  | nil => rfl
  | cons b l ih =>
    rw [List.map_cons, List.count_cons, List.count_cons, ih]
    congr 1
    cases b <;> rfl
/-- The one value of all of a table's, or -1. -/
def knownT (N : Int) (s : ByteArray) : Int := if tok N s then (if (flags s).contains true then (if (flags s).contains false then -1 else 1) else 0) else -1
theorem all_cont (t : List Bool) (b : Bool) : (t.all fun x => x == b) = !t.contains (!b) := by
  induction t with
  | nil => rfl
  | cons x t ih =>
    rw [List.all_cons, ih, List.contains_cons]
    cases x <;> cases b <;> simp
theorem range_all_getD (t : List Bool) (b : Bool) : ((List.range t.length).all fun i => t.getD i false == b) = t.all fun x => x == b := by
  have h := congrArg (fun m : List Bool => m.all id) (range_getD t (fun x => x == b))
  simpa [List.all_map, Function.comp_def] using h
/-- How many of a table's values are 1, or -1. -/
def countT (N : Int) (s : ByteArray) : Int := if tok N s then (((flags s).count true : Nat) : Int) else -1
theorem impl_TableCount_eq (N : Int) (s : ByteArray) (hs : s.size ≤ 1099511627776) : ∀ k, s.size + 20 < k → impl_TableCount.f k N s = some (countT N s) := by
  intro k hk
  unfold impl_TableCount.f countT
  rw [impl_TableOk_eq N s hs k hk, Option.bind_some]
  cases ht : tok N s with
  | false => rfl
  | true =>
    obtain ⟨n, l, rfl, hn, hl, rfl⟩ := tok_form ht
    rw [if_pos rfl, if_pos rfl, show strings_Count.f (ones l) ⟨#[49]⟩ = some (((ones l).data.toList.count 49 : Nat) : Int) from rfl, count1, flags_ones]
    rfl
end Go.Proofs.Ythipjoioicmcnaa.Pure
/- Decimal texts and keys of tables, the program's and the reference's. Conditions: each lemma's own hypotheses. -/
set_option linter.unusedSimpArgs false
set_option linter.unusedVariables false
namespace Go.Proofs.Ythipjoioicmcnaa.Pure
open Go.RowKit Go.Proofs.Ythipjoioicmcnaa.G Go.Proofs.YthipjoioicmcnaaW.PrintWords Go.Proofs.YthipjoioicmcnaaW.PrintLast Go.Proofs.YthipjoioicmcnaaW.PrintMore

/-- The decimal digits of a number. -/
def digs (n : Nat) : List UInt8 := if n < 10 then [UInt8.ofNat (48 + n)] else digs (n / 10) ++ [UInt8.ofNat (48 + n % 10)]
termination_by n
decreasing_by omega
theorem digs_small {n : Nat} (h : n < 10) : digs n = [UInt8.ofNat (48 + n)] := by rw [digs, if_pos h]
theorem digs_big {n : Nat} (h : ¬ n < 10) : digs n = digs (n / 10) ++ [UInt8.ofNat (48 + n % 10)] := by rw [digs, if_neg h]
theorem digs_pos (n : Nat) : 1 ≤ (digs n).length := by
  by_cases h : n < 10
  · rw [digs_small h]; simp
  · rw [digs_big h]; simp
theorem digs_len (d : Nat) : ∀ n, n < 10 ^ d → (digs n).length ≤ max 1 d := by
  induction d with
  | zero => intro n hn; rw [digs_small (by omega)]; simp
  | succ d ih =>
    intro n hn
    by_cases h : n < 10
    · rw [digs_small h]; simp <;> omega
    · rw [digs_big h]
      have := ih (n / 10) (by rw [Nat.pow_succ] at hn; omega)
      simp
      by_cases hd : d = 0
      · subst hd; omega
      · omega
def byts (l : List UInt8) : ByteArray := ⟨l.toArray⟩
theorem byts_append (a b : List UInt8) : byts a ++ byts b = byts (a ++ b) := by
  apply data_inj
  rw [ByteArray.data_append]
  simp [byts]
theorem byts_size (l : List UInt8) : (byts l).size = l.length := by
  show l.toArray.size = _
  simp
theorem byts_inj {a b : List UInt8} (h : byts a = byts b) : a = b := by
  have := congrArg (fun s : ByteArray => s.data.toList) h
  simpa [byts] using this
theorem byts_of (s : ByteArray) : byts s.data.toList = s := by cases s; simp [byts]
theorem ones_byts (l : List Bool) : ones l = byts (l.map fun b => if b then (49 : UInt8) else 48) := rfl
theorem digit_extract (d : Nat) (hd : d < 10) : (⟨#[48, 49, 50, 51, 52, 53, 54, 55, 56, 57]⟩ : ByteArray).extract d (d + 1) = byts [UInt8.ofNat (48 + d)] := by
  apply data_inj
  rw [ByteArray.data_extract]
  rcases (show d = 0 ∨ d = 1 ∨ d = 2 ∨ d = 3 ∨ d = 4 ∨ d = 5 ∨ d = 6 ∨ d = 7 ∨ d = 8 ∨ d = 9 by omega) with h | h | h | h | h | h | h | h | h | h <;> subst h <;> decide
theorem l03Dec_step (k : Nat) (x0 : Int) (s : List UInt8) (x : Nat) (h0 : 0 < x) (h1 : x ≤ 9223372036854775807) (hs : s.length ≤ 100) : spec_l03Dec.l0 (k + 1) x0 (byts s) (x : Int) = spec_l03Dec.l0 k x0 (byts (UInt8.ofNat (48 + x % 10) :: s)) ((x / 10 : Nat) : Int) := by
  have hm : Int.tmod (x : Int) 10 = ((x % 10 : Nat) : Int) := by rw [Int.tmod_eq_emod_of_nonneg (by omega)]; omega
  have hd : Int.tdiv (x : Int) 10 = ((x / 10 : Nat) : Int) := by rw [Int.tdiv_eq_ediv_of_nonneg (by omega)]; omega
  simp only [spec_l03Dec.l0]
  rw [hm, hd, if_neg (by omega), if_neg (by omega), if_pos (by omega), w64s (x % 10) (by omega), if_pos (by omega), if_pos (by omega), Int.toNat_natCast, Int.toNat_natCast, digit_extract (x % 10) (by omega), if_pos (by simp only [byts_size]; simp; omega), w64 (by omega) (by omega), byts_append]
  rfl
theorem l03Dec_stop (k : Nat) (x0 : Int) (s : ByteArray) (h : 0 ≤ x0) : spec_l03Dec.l0 (k + 1) x0 s 0 = some s := by
  simp only [spec_l03Dec.l0]
  rw [if_pos trivial, if_neg (by omega)]
theorem l03Dec_loop (x0 : Int) (hx : 0 ≤ x0) (d : Nat) : ∀ (x : Nat) (s : List UInt8) (k : Nat), 0 < x → x < 10 ^ d → x ≤ 9223372036854775807 → s.length + d ≤ 60 → d < k → spec_l03Dec.l0 k x0 (byts s) (x : Int) = some (byts (digs x ++ s)) := by
  induction d with
  | zero => intro x s k h0 h1; omega
  | succ d ih =>
    intro x s k h0 h1 h2 h3 hk
    obtain ⟨k, rfl⟩ : ∃ m, k = m + 1 := ⟨k - 1, by omega⟩
    rw [l03Dec_step k x0 s x h0 h2 (by omega)]
    by_cases h : x < 10
    · obtain ⟨k, rfl⟩ : ∃ m, k = m + 1 := ⟨k - 1, by omega⟩
      rw [show x / 10 = 0 by omega, show ((0 : Nat) : Int) = 0 from rfl, l03Dec_stop _ _ _ hx, digs_small h, Nat.mod_eq_of_lt h]
      rfl
    · rw [ih (x / 10) _ k (by omega) (by rw [Nat.pow_succ] at h1; omega) (by omega) (by simp; omega) (by omega), digs_big h]
      simp
theorem spec_l03Dec_eq (n : Nat) (hn : n ≤ 9223372036854775807) : ∀ k, 20 ≤ k → spec_l03Dec.f k (n : Int) = some (byts (digs n)) := by
  intro k hk
  unfold spec_l03Dec.f
  by_cases h0 : n = 0
  · subst h0
    rw [if_pos (show ((0 : Nat) : Int) = 0 from rfl), digs_small (by omega)]
    rfl
  · rw [if_neg (by omega)]
    have h := l03Dec_loop (n : Int) (by omega) 19 n [] k (by omega) (by omega) (by omega) (by simp) (by omega)
    simpa [byts] using h
theorem digits_step (k : Nat) (s : List UInt8) (x : Nat) (h1 : x ≤ 18446744073709551615) (hs : s.length ≤ 100) (h0 : s = [] ∨ 0 < x) : impl_digits.l0 (k + 1) (x : Int) (byts s) = impl_digits.l0 k ((x / 10 : Nat) : Int) (byts (UInt8.ofNat (48 + x % 10) :: s)) := by
  have hm : Int.tmod (x : Int) 10 = ((x % 10 : Nat) : Int) := by rw [Int.tmod_eq_emod_of_nonneg (by omega)]; omega
  have hd : Int.tdiv (x : Int) 10 = ((x / 10 : Nat) : Int) := by rw [Int.tdiv_eq_ediv_of_nonneg (by omega)]; omega
  have he : (byts s).toList = s := by rw [toList_data]; simp [byts]
  have hc : strOfNums [(IntKind.u64.wrap (48 + Int.tmod (x : Int) 10)) % 256] = byts [UInt8.ofNat (48 + x % 10)] := by
    rw [hm, u64_of (by omega) (by omega), show ((48 : Int) + ((x % 10 : Nat) : Int)) % 256 = ((48 + x % 10 : Nat) : Int) by omega]
    rfl
  simp only [impl_digits.l0, he, Option.bind_some, hc, byts_size, hd]
  rw [u64_of (a := ((x / 10 : Nat) : Int)) (by omega) (by omega), byts_append]
  by_cases hs0 : s = []
  · rw [if_pos hs0, if_pos (by rw [List.length_singleton]; omega)]; rfl
  · have hx := h0.resolve_left hs0
    rw [if_neg hs0, if_pos (by omega), if_pos (by rw [List.length_singleton]; omega)]; rfl
theorem digits_stop (k : Nat) (s : List UInt8) (hs : s ≠ []) : impl_digits.l0 (k + 1) 0 (byts s) = some (byts s) := by
  have he : (byts s).toList = s := by rw [toList_data]; simp [byts]
  simp only [impl_digits.l0, he]
  rw [if_neg hs, if_neg (by decide)]
theorem digits_loop (d : Nat) : ∀ (x : Nat) (s : List UInt8) (k : Nat), (s = [] ∨ 0 < x) → x < 10 ^ (d + 1) → x ≤ 18446744073709551615 → s.length + d ≤ 60 → d + 1 < k → impl_digits.l0 k (x : Int) (byts s) = some (byts (digs x ++ s)) := by
  induction d with
  | zero =>
    intro x s k h0 h1 h2 h3 hk
    obtain ⟨k, rfl⟩ : ∃ m, k = m + 2 := ⟨k - 2, by omega⟩
    rw [digits_step (k + 1) s x h2 (by omega) h0, show x / 10 = 0 by omega, show ((0 : Nat) : Int) = 0 from rfl, digits_stop _ _ (by simp), digs_small (by omega), Nat.mod_eq_of_lt (by omega)]
    rfl
  | succ d ih =>
    intro x s k h0 h1 h2 h3 hk
    obtain ⟨k, rfl⟩ : ∃ m, k = m + 1 := ⟨k - 1, by omega⟩
    rw [digits_step k s x h2 (by omega) h0]
    by_cases h : x < 10
    · obtain ⟨k, rfl⟩ : ∃ m, k = m + 1 := ⟨k - 1, by omega⟩
      rw [show x / 10 = 0 by omega, show ((0 : Nat) : Int) = 0 from rfl, digits_stop _ _ (by simp), digs_small h, Nat.mod_eq_of_lt h]
      rfl
    · rw [ih (x / 10) _ k (.inr (by omega)) (by rw [Nat.pow_succ] at h1; omega) (by omega) (by simp; omega) (by omega), digs_big h]
      simp
theorem impl_digits_eq (n : Nat) (hn : n ≤ 18446744073709551615) : ∀ k, 22 ≤ k → impl_digits.f k (n : Int) = some (byts (digs n)) := by
  intro k hk
  unfold impl_digits.f
  have h := digits_loop 19 n [] k (.inl rfl) (by omega) hn (by simp) (by omega)
  simpa [byts] using h
/-- The decimal text of a whole number. -/
def decs (a : Int) : List UInt8 := if a < 0 then 45 :: digs (-a).toNat else digs a.toNat
theorem impl_decimal_eq (a : Int) (h0 : -9223372036854775808 ≤ a) (h1 : a ≤ 9223372036854775807) : ∀ k, 22 ≤ k → impl_decimal.f k a = some (byts (decs a)) := by
  intro k hk
  unfold impl_decimal.f decs
  by_cases h : a < 0
  · rw [if_pos h, if_pos h, w64 (n := a + 1) (by omega) (by omega), w64 (n := -(a + 1)) (by omega) (by omega), u64_of (a := -(a + 1)) (by omega) (by omega), u64_of (a := -(a + 1) + 1) (by omega) (by omega), show -(a + 1) + 1 = (((-a).toNat : Nat) : Int) by omega, impl_digits_eq _ (by omega) k hk, Option.bind_some]
    have := digs_len 20 (-a).toNat (by omega)
    rw [if_pos (by rw [byts_size]; omega)]
    exact congrArg some (byts_append [45] _)
  · rw [if_neg h, if_neg h, u64_of (by omega) (by omega), show a = ((a.toNat : Nat) : Int) by omega, impl_digits_eq _ (by omega) k hk, Option.bind_some]
    rfl
theorem impl_decimal_nat (n : Nat) (hn : n ≤ 9223372036854775807) : ∀ k, 22 ≤ k → impl_decimal.f k (n : Int) = some (byts (digs n)) := by
  intro k hk
  rw [impl_decimal_eq (n : Int) (by omega) (by omega) k hk, decs, if_neg (by omega), Int.toNat_natCast]
/-- The key of a right table; the empty text for what is none. -/
def keyOf (N : Int) (s : ByteArray) : ByteArray := if tok N s then byts (digs N.toNat) ++ ⟨#[58]⟩ ++ s else ⟨#[]⟩
theorem digs12 {n : Nat} (h : n ≤ 12) : (digs n).length ≤ 2 := by
  have := digs_len 2 n (by omega)
  omega
theorem spec_TableKey_eq (N : Int) (s : ByteArray) (hs : s.size ≤ 1099511627776) : ∀ k, s.size + 30 < k → spec_TableKey.f k N s = some (keyOf N s) := by
  intro k hk
  unfold spec_TableKey.f keyOf
  rw [spec_TableOk_eq N s hs k (by omega), Option.bind_some]
  cases ht : tok N s with
  | false => rfl
  | true =>
    obtain ⟨n, l, rfl, hn, hl, rfl⟩ := tok_form ht
    have := digs12 hn
    rw [if_pos rfl, spec_l03Dec_eq n (by omega) k (by omega), Option.bind_some, if_pos (by rw [byts_size]; omega), if_pos (by rw [byts_size]; omega)]
    rfl
theorem impl_TableKey_eq (N : Int) (s : ByteArray) (hs : s.size ≤ 1099511627776) : ∀ k, s.size + 30 < k → impl_TableKey.f k N s = some (keyOf N s) := by
  intro k hk
  unfold impl_TableKey.f impl_Table_key.f keyOf
  rw [impl_TableOk_eq N s hs k (by omega), Option.bind_some]
  cases ht : tok N s with
  | false => rfl
  | true =>
    obtain ⟨n, l, rfl, hn, hl, rfl⟩ := tok_form ht
    have := digs12 hn
    rw [if_pos rfl, impl_decimal_nat n (by omega) k (by omega), Option.bind_some, if_pos (by rw [byts_size]; omega), if_pos (by rw [byts_size]; omega)]
    rfl
end Go.Proofs.Ythipjoioicmcnaa.Pure
/- The laws of tables put together value by value. Conditions: lengths fit. -/
set_option linter.unusedSimpArgs false
set_option linter.unusedVariables false
namespace Go.Proofs.Ythipjoioicmcnaa.Pure
open Go.RowKit Go.Proofs.Ythipjoioicmcnaa.G Go.Proofs.YthipjoioicmcnaaW.PrintWords Go.Proofs.YthipjoioicmcnaaW.PrintLast Go.Proofs.YthipjoioicmcnaaW.PrintMore

theorem zip_xor_xor : ∀ a b : List Bool, a.length = b.length → List.zipWith xor (List.zipWith xor a b) b = a := by
  intro a
  induction a with
  | nil => intro b h; simp
  | cons x a ih =>
    intro b h
    match b, h with
    | y :: b, h =>
      simp only [List.zipWith_cons_cons, ih b (by simpa using h)]
      cases x <;> cases y <;> rfl
theorem zip_parts : ∀ a b : List Bool, a.length = b.length → List.zipWith xor (List.zipWith and a (b.map not)) (List.zipWith and (a.map not) b) = List.zipWith xor a b := by
  intro a
  induction a with
  | nil => intro b h; simp
  | cons x a ih =>
    intro b h
    match b, h with
    | y :: b, h =>
      simp only [List.map_cons, List.zipWith_cons_cons, ih b (by simpa using h)]
      cases x <;> cases y <;> rfl
theorem map_not_not (a : List Bool) : (a.map not).map not = a := by
  rw [List.map_map]
  exact (List.map_congr_left fun x _ => by cases x <;> rfl).trans (List.map_id a)
theorem count_and : ∀ a b : List Bool, a.length = b.length → (List.zipWith and a b).count true + (List.zipWith and a (b.map not)).count true = a.count true := by
  intro a
  induction a with
  | nil => intro b h; simp
  | cons x a ih =>
    intro b h
    match b, h with
    | y :: b, h =>
      have := ih b (by simpa using h)
      simp only [List.map_cons, List.zipWith_cons_cons, List.count_cons]
      cases x <;> cases y <;> simp <;> omega
theorem count_xor : ∀ a b : List Bool, a.length = b.length → (List.zipWith xor a b).count true = (List.zipWith and a (b.map not)).count true + (List.zipWith and (a.map not) b).count true := by
  intro a
  induction a with
  | nil => intro b h; simp
  | cons x a ih =>
    intro b h
    match b, h with
    | y :: b, h =>
      have := ih b (by simpa using h)
      simp only [List.map_cons, List.zipWith_cons_cons, List.count_cons]
      cases x <;> cases y <;> simp <;> omega
theorem key_inj (n : Nat) (hn : n ≤ 12) {s t : ByteArray} (hs : tok (n : Int) s = true) (ht : tok (n : Int) t = true) : (keyOf (n : Int) s).toList = (keyOf (n : Int) t).toList ↔ s.toList = t.toList := by
  rw [toList_inj, toList_inj]
  unfold keyOf
  rw [if_pos hs, if_pos ht]
  constructor
  · intro h
    have h2 := congrArg (fun x : ByteArray => x.data.toList) h
    simp only [ByteArray.data_append, Array.toList_append, List.append_assoc] at h2
    exact data_inj (List.append_cancel_left (List.append_cancel_left h2))
  · intro h
    rw [h]
theorem laws_FnLogic_j0_eq (N : Int) (s : ByteArray) (M : Int) (t : ByteArray) (hN : -1 ≤ N ∧ N ≤ 13 ∧ s.size ≤ 4096) (hM : -1 ≤ M ∧ M ≤ 13 ∧ t.size ≤ 4096) : ∀ k, 20000 < k →
    laws_FnLogic.j0 k (bothT and N s M t).2.2 false N s M t (bothT and N s M t).1 (bothT and N s M t).2.1 (bothT xor N s M t).1 (bothT xor N s M t).2.1 = some true := by
  intro k hk
  obtain ⟨k, rfl⟩ : ∃ m, k = m + 1 := ⟨k - 1, by omega⟩
  simp only [laws_FnLogic.j0]
  rw [if_neg (by decide)]
  cases hc : tok N s && tok M t && (N == M) with
  | false =>
    have e : ∀ f, bothT f N s M t = (0, ⟨#[]⟩, false) := fun f => by unfold bothT; rw [hc]; rfl
    have hem : (⟨#[]⟩ : ByteArray).toList = [] := by rw [toList_data]
    rw [e, e]
    simp only [Bool.false_eq_true, if_false]
    rw [if_pos hem, hem]
    rfl
  | true =>
    have hc2 := hc
    simp only [Bool.and_eq_true, beq_iff_eq] at hc2
    obtain ⟨⟨hts, htt⟩, rfl⟩ := hc2
    have e : ∀ f, bothT f N s N t = (N, ones (List.zipWith f (flags s) (flags t)), true) := fun f => by unfold bothT; rw [hc]; rfl
    rw [e, e]
    obtain ⟨n, a, rfl, hn, ha, rfl⟩ := tok_form hts
    obtain ⟨n', b, hnn, _, hb, rfl⟩ := tok_form htt
    obtain rfl : n = n' := by omega
    have hp := pow12 hn
    have hab : a.length = b.length := by omega
    have tk : ∀ l : List Bool, l.length = a.length → tok (n : Int) (ones l) = true := fun l hl => tok_ones hn (by omega)
    have sz : ∀ l : List Bool, l.length = a.length → (ones l).size ≤ 1099511627776 := fun l hl => by rw [ones_size]; omega
    have both : ∀ f (x y : List Bool), x.length = a.length → y.length = a.length → bothT f (n : Int) (ones x) (n : Int) (ones y) = ((n : Int), ones (List.zipWith f x y), true) := fun f x y hx hy => by
      unfold bothT; rw [tk x hx, tk y hy, flags_ones, flags_ones]; simp
    have eand : ∀ x y : List Bool, x.length = a.length → y.length = a.length → impl_TableAnd.f k (n : Int) (ones x) (n : Int) (ones y) = some ((n : Int), ones (List.zipWith and x y), true) := fun x y hx hy => by
      rw [impl_TableAnd_eq _ _ _ _ (sz x hx) (sz y hy) k (by rw [ones_size, ones_size]; omega), both and x y hx hy]
    have exor : ∀ x y : List Bool, x.length = a.length → y.length = a.length → impl_TableXor.f k (n : Int) (ones x) (n : Int) (ones y) = some ((n : Int), ones (List.zipWith xor x y), true) := fun x y hx hy => by
      rw [impl_TableXor_eq _ _ _ _ (sz x hx) (sz y hy) k (by rw [ones_size, ones_size]; omega), both xor x y hx hy]
    have enot : ∀ x : List Bool, x.length = a.length → impl_TableNot.f k (n : Int) (ones x) = some ((n : Int), ones (x.map not)) := fun x hx => by
      rw [impl_TableNot_eq _ _ (sz x hx) k (by rw [ones_size]; omega)]
      unfold notT; rw [tk x hx, flags_ones]; rfl
    have ecnt : ∀ x : List Bool, x.length = a.length → impl_TableCount.f k (n : Int) (ones x) = some ((x.count true : Nat) : Int) := fun x hx => by
      rw [impl_TableCount_eq _ _ (sz x hx) k (by rw [ones_size]; omega)]
      unfold countT; rw [tk x hx, flags_ones]; rfl
    have ekey : ∀ x : List Bool, x.length = a.length → impl_TableKey.f k (n : Int) (ones x) = some (keyOf (n : Int) (ones x)) := fun x hx => impl_TableKey_eq _ _ (sz x hx) k (by rw [ones_size]; omega)
    have skey : spec_TableKey.f k (n : Int) (ones a) = some (keyOf (n : Int) (ones a)) := spec_TableKey_eq _ _ (sz a rfl) k (by rw [ones_size]; omega)
    have la : (a.map not).length = a.length := by simp
    have lb : (b.map not).length = a.length := by simp; omega
    have l1 : (List.zipWith xor a b).length = a.length := by simp; omega
    have l2 : (List.zipWith and a (b.map not)).length = a.length := by simp; omega
    have l3 : (List.zipWith and (a.map not) b).length = a.length := by simp; omega
    have l4 : (List.zipWith and a b).length = a.length := by simp; omega
    have hca := count_and a b hab
    have hcx := count_xor a b hab
    have c1 : (List.zipWith and a b).count true ≤ 4096 := Nat.le_trans List.count_le_length (by omega)
    have c2 : (List.zipWith and a (b.map not)).count true ≤ 4096 := Nat.le_trans List.count_le_length (by omega)
    have c3 : (List.zipWith and (a.map not) b).count true ≤ 4096 := Nat.le_trans List.count_le_length (by omega)
    rw [if_pos rfl]
    simp only [flags_ones]
    rw [exor _ _ l1 hab.symm, Option.bind_some, enot b hab.symm, Option.bind_some, eand _ _ rfl lb, Option.bind_some, enot a rfl, Option.bind_some, eand _ _ la hab.symm, Option.bind_some, exor _ _ l2 l3, Option.bind_some, zip_xor_xor a b hab, zip_parts a b hab, if_pos (by simp), if_pos (by simp), Option.bind_some, enot _ la, Option.bind_some, map_not_not,
      if_pos (by simp), ekey a rfl, Option.bind_some, skey, Option.bind_some, if_pos rfl, ekey b hab.symm, Option.bind_some]
    have hk2 : ((keyOf (n : Int) (ones a)).toList == (keyOf (n : Int) (ones b)).toList) = ((n : Int) == (n : Int) && ((ones a).toList == (ones b).toList)) := by
      rw [beq_self_eq_true, Bool.true_and, Bool.eq_iff_iff, beq_iff_eq, beq_iff_eq]
      exact key_inj n hn hts htt
    rw [Option.bind_some, if_pos (by rw [hk2]; simp), ecnt _ l4, Option.bind_some, ecnt _ l2, Option.bind_some, ecnt a rfl, Option.bind_some, w64 (by omega) (by omega), if_pos (by omega), ecnt _ l1, Option.bind_some, Option.bind_some, ecnt _ l3, Option.bind_some, w64 (by omega) (by omega), hcx]
    simp
theorem FnLogic_pure : ∀ (l0 : List Int), (l0.length ≤ maxLen ∧ ∀ x_ ∈ l0, (Lit.int .u8 x_).wf = true) → ∃ k, laws_FnLogic.f k l0 = some true := by
  intro b _
  unfold laws_FnLogic.f laws_big.f
  by_cases hb : (b.length : Int) > 1048576
  · exact ⟨0, by rw [Option.bind_some, if_pos (by simpa using hb)]⟩
  obtain ⟨k, hk⟩ : ∃ k, b.length + 30000 < k := ⟨b.length + 30001, by omega⟩
  refine ⟨k, ?_⟩
  obtain ⟨N, s, M, t, e, hN, hM⟩ := drawTableAnd_ok b (by omega) k (by omega)
  rw [Option.bind_some, if_neg (by simpa using hb), e, Option.bind_some]
  simp only
  have e1 := impl_TableAnd_eq N s M t (by omega) (by omega) k (by omega)
  have e2 := impl_TableXor_eq N s M t (by omega) (by omega) k (by omega)
  have e3 : spec_TableAnd.f k N s M t = some (bothT and N s M t) := by
    unfold spec_TableAnd.f
    rw [l06Both_eq N s M t true (by omega) (by omega) k (by omega), Option.bind_some]
    rfl
  have e4 : (bothT xor N s M t).2.2 = (bothT and N s M t).2.2 := by unfold bothT; split <;> rfl
  rw [e1, Option.bind_some, e2, Option.bind_some, e3, Option.bind_some, bne_self_eq_false, if_neg (by decide), e4, bne_self_eq_false]
  exact laws_FnLogic_j0_eq N s M t hN hM k (by omega)
end Go.Proofs.Ythipjoioicmcnaa.Pure
/- What an argument of a law reads as, told by the print's kinds: a lemma for each shape of type. Conditions: none beyond the lemmas' own hypotheses. -/
namespace Go.Proofs.Ythipjoioicmcnaa.Open
open Go.Deep Go.ChangeShapes Go.WideShapes Go.RowKit Go.Proofs.YthipjoioicmcnaaW.PrintWords

/-- Whatever reads as data of type t reads by the kind d, and what is read is ok. -/
def Opens {α : Type} (P : Program) (t : TypeId) (d : Kd α) (ok : α → Prop) : Prop :=
  ∀ (H : Type) (enc : TypeId × Value → H) (w : World) (base : Nat) (spare : Nat → Bool) (held : Bool) (fuel : Nat) (cs : List Value) (x : DataW H × List MemPlace),
    DataW.trod enc P w base spare held fuel t cs = some x → ∃ a, d.K w a cs ∧ ok a

def FOpens {α : Type} (P : Program) (fs : List Field) (off : Nat) (d : Kd α) (ok : α → Prop) : Prop :=
  ∀ (H : Type) (enc : TypeId × Value → H) (w : World) (base : Nat) (spare : Nat → Bool) (held : Bool) (fuel : Nat) (cs : List Value),
    (∀ f ∈ fs, ∃ x, DataW.trod enc P w base spare held fuel f.type ((cs.drop f.offset).take (P.cellsOf f.type)) = some x) → ∃ a, d.K w a ((cs.drop off).take d.sz) ∧ ok a

theorem opens_int {P : Program} {t : TypeId} {k : IntKind} (hu : P.underlying t = some (.int k)) : Opens P t (Kd.int k) (fun a => (Lit.int k a).wf = true) := by
  intro H enc w base spare held fuel cs x h
  obtain ⟨n, rfl, _, hw⟩ := DataW.trod_int hu h
  exact ⟨n, rfl, hw⟩
theorem opens_bool {P : Program} {t : TypeId} (hu : P.underlying t = some .bool) : Opens P t Kd.bool (fun _ => True) := by
  intro H enc w base spare held fuel cs x h
  obtain ⟨n, rfl, _⟩ := DataW.trod_bool hu h
  exact ⟨n, rfl, trivial⟩
theorem opens_string {P : Program} {t : TypeId} (hu : P.underlying t = some .string) : Opens P t Kd.string (fun s => s.size ≤ maxLen) := by
  intro H enc w base spare held fuel cs x h
  obtain ⟨n, rfl, _, hw⟩ := DataW.trod_string hu h
  exact ⟨n, rfl, hw⟩
theorem list_of {α : Type} {p : Nat → α → Prop} : ∀ n, (∀ i, i < n → ∃ a, p i a) → ∃ l : List α, l.length = n ∧ ∀ i a, l[i]? = some a → p i a
  | 0, _ => ⟨[], rfl, fun i a h => by simp at h⟩
  | n + 1, h => by
    obtain ⟨l, hl, hp⟩ := list_of n (fun i hi => h i (by omega))
    obtain ⟨a, ha⟩ := h n (by omega)
    refine ⟨l ++ [a], by simp [hl], fun i b hb => ?_⟩
    rw [List.getElem?_append] at hb
    split at hb
    · exact hp i b hb
    · rename_i hi
      have e : i = n := by
        rcases Nat.lt_or_ge (i - l.length) 1 with h1 | h1
        · omega
        · rw [List.getElem?_eq_none (by simpa using h1)] at hb
          cases hb
      subst e
      rw [hl, Nat.sub_self] at hb
      cases hb
      exact ha
theorem opens_slice {α : Type} {P : Program} {t e : TypeId} {d : Kd α} {ok : α → Prop} (hu : P.underlying t = some (.slice e)) (hc : P.cellsOf e = d.sz) (h : Opens P e d ok) :
    Opens P t (Kd.slice e d) (fun l => l.length ≤ maxLen ∧ ∀ x ∈ l, ok x) := by
  intro H enc w base spare held fuel cs x hx
  rcases open_slice hu hx with ⟨rfl, rfl⟩ | ⟨a, len, cap, m, n, D, Pl, rfl, hb, hl, hm, hmm, rfl, hel⟩
  · exact ⟨[], ⟨none, 0, rfl, Nat.le_refl _, rfl, by simp, fun h => absurd h (by simp)⟩, by simp [maxLen], by simp⟩
  · have hle : len ≤ m := by rw [hmm]; split <;> omega
    have hone : ∀ i, i < len → ∃ y : α, (∃ cs', w.cells? base (a.add (i * P.cellsOf e)) (P.cellsOf e) = some cs' ∧ d.K w y cs') ∧ ok y := by
      intro i hi
      obtain ⟨cs', h1, h2⟩ := hel i (by omega)
      obtain ⟨y, hk, ho⟩ := h H enc w base spare held n cs' _ h2
      exact ⟨y, ⟨cs', h1, hk⟩, ho⟩
    obtain ⟨l, hll, hp⟩ := list_of len hone
    subst hll
    refine ⟨l, ⟨some a, cap, rfl, hl, rfl, by simp only [maxLen] at hm; omega, fun _ => ⟨a, rfl, fun j p hj => ?_⟩⟩, by omega, ?_⟩
    · obtain ⟨⟨cs', h1, hk⟩, _⟩ := hp j p hj
      refine ⟨cs', d.K_len hk, hk, fun i u hu => ?_⟩
      have hlt : i < cs'.length := by
        rcases Nat.lt_or_ge i cs'.length with h' | h'
        · exact h'
        · rw [List.getElem?_eq_none h'] at hu; cases hu
      have hlen := d.K_len hk
      obtain ⟨_, hlen2, hcell⟩ := World.cells?_some h1
      rw [hc] at hcell
      have := hcell i (by omega)
      rw [hu] at this
      rw [← Addr.add_add]
      exact this.symm ▸ rfl
    · intro x hx
      obtain ⟨i, hi, rfl⟩ := List.getElem_of_mem hx
      exact (hp i _ (List.getElem?_eq_getElem hi)).2
theorem fopens_one {α : Type} {P : Program} {f : Field} {off : Nat} {d : Kd α} {ok : α → Prop} (ho : f.offset = off) (hc : P.cellsOf f.type = d.sz) (h : Opens P f.type d ok) : FOpens P [f] off d ok := by
  intro H enc w base spare held fuel cs hx
  obtain ⟨x, hx⟩ := hx f (by simp)
  rw [ho, hc] at hx
  exact h H enc w base spare held fuel _ x hx
theorem fopens_cons {α β : Type} {P : Program} {f : Field} {fs : List Field} {off : Nat} {d : Kd α} {d' : Kd β} {ok : α → Prop} {ok' : β → Prop} (ho : f.offset = off) (hc : P.cellsOf f.type = d.sz) (h : Opens P f.type d ok)
    (hs : FOpens P fs (off + d.sz) d' ok') : FOpens P (f :: fs) off (Kd.pair d d') (fun x => ok x.1 ∧ ok' x.2) := by
  intro H enc w base spare held fuel cs hx
  obtain ⟨a, ha, hoa⟩ := fopens_one ho hc h H enc w base spare held fuel cs (fun g hg => hx g (by simp at hg; simp [hg]))
  obtain ⟨b, hb, hob⟩ := hs H enc w base spare held fuel cs (fun g hg => hx g (by simp [hg]))
  refine ⟨(a, b), ⟨_, _, ?_, ha, hb⟩, hoa, hob⟩
  show (cs.drop off).take (d.sz + d'.sz) = _
  rw [List.take_add, List.drop_drop]
theorem opens_struct {α : Type} {P : Program} {t : TypeId} {fs : Array Field} {d : Kd α} {ok : α → Prop} (hu : P.underlying t = some (.struct fs)) (hc : P.cellsOf t = d.sz) (h : FOpens P fs.toList 0 d ok) : Opens P t d ok := by
  intro H enc w base spare held fuel cs x hx
  obtain ⟨xs, n, rfl, _, hlen, hxl, hf⟩ := DataW.trod_struct hu hx
  have := h H enc w base spare held n cs (fun f hm => by
    obtain ⟨i, hi, rfl⟩ := List.getElem_of_mem hm
    have hi' : i < fs.size := by simpa using hi
    have e := hf i fs[i] (Array.getElem?_eq_getElem hi')
    rw [List.getElem?_eq_getElem (show i < xs.length by omega)] at e
    exact ⟨_, by simpa using e⟩)
  rw [List.drop_zero, List.take_of_length_le (by omega)] at this
  exact this
theorem opens_iso {α β : Type} {P : Program} {t : TypeId} {d : Kd α} {ok : α → Prop} (f : β → α) (g : α → β) (hfg : ∀ a, f (g a) = a) (h : Opens P t d ok) : Opens P t (Kd.iso d f) (fun x => ok (f x)) := by
  intro H enc w base spare held fuel cs x hx
  obtain ⟨a, ha, ho⟩ := h H enc w base spare held fuel cs x hx
  exact ⟨g a, by show d.K w (f (g a)) cs; rw [hfg]; exact ha, by show ok (f (g a)); rw [hfg]; exact ho⟩
/-- A struct's value is its cells. -/
theorem agg_of_cells {P : Program} {w : World} {r : Reach} {base : Nat} {t : TypeId} {fs : Array Field} {v : Value} {cs : List Value} (hu : P.underlying t = some (.struct fs)) (hv : Value.okWide P w r base t v) (hc : v.cells.toList = cs) : v = .agg cs.toArray := by
  obtain ⟨c, rfl, _⟩ := okWide_struct hu hv
  simp only [Value.cells] at hc
  subst hc
  simp
end Go.Proofs.Ythipjoioicmcnaa.Open
/- The statement FnLogicSaid of the law FnLogic: for every input the call returns true and its arguments read as before. Conditions: none. (Written by a program of this session: wip/gen/row.py.) -/
namespace Go.Proofs.Ythipjoioicmcnaa.fnLogic
open Go.ChangeShapes Go.WideShapes Go.ChangeAt Go.RowKit Go.Proofs.Ythipjoioicmcnaa.Open Go.Proofs.Ythipjoioicmcnaa.G Go.Proofs.YthipjoioicmcnaaW.PrintWords
open Go.ChangeMaps (open_string shut_string)
set_option linter.unusedVariables false
theorem own : ownKnob Try.prog.godebug = none := by kernel_rfl
theorem laidOut : laidOutB Try.prog = true := by kernel_rfl
set_option maxRecDepth 100000 in
theorem lifted (os : Os) (started : os.Started) (H : Type) (enc : TypeId × Value → H) :
    ReturnsInHanded {} Try.checked os 6 .any (Rows.fnLogicSpec.pre6 enc Try.prog Try.f6 Rows.fnLogicRow.domain false) (Rows.fnLogicSpec.post enc Try.prog Try.f6 false true false false) := by
  refine returnsInHanded_of_change (C := Try.checked) own started (by kernel_rfl) Try.func6
    (ChangeSpec.witness6 (enc := enc) (C := Try.checked) false ⟨#[], #[.slice none 0 0], []⟩ 8 (by kernel_rfl) (by kernel_rfl) (by kernel_rfl) (by kernel_rfl)) ?_
  intro W base args ds gs before hval0 hW hcnd _
  have hval : ∀ (j : Nat) t v, Try.f6.params[j]? = some t → args[j]? = some v → Value.okWide Try.prog W .any base t v := hval0
  have hW' := hW
  obtain ⟨p, q, hA0, hV, rfl, hfz, hnd⟩ := hW
  have hA : DataW.TrodAll enc Try.prog W 0 (fun _ => true) true Try.f6.params.toList args.toList ds p := hA0
  rw [Try.params6] at hA hval
  obtain ⟨v0, vs0, d0, ds0, p0, q0, hargs, rfl, rfl, h0, r0⟩ := trodAll_cons hA
  obtain ⟨rfl, rfl, rfl⟩ := trodAll_nil r0
  obtain rfl : args = #[v0] := by cases args; simp_all
  obtain ⟨rfl, rfl⟩ := trodVars_none hV
  have k0 := h0
  have lt0 : ∀ x ∈ p0, x.block < W.heap.size := by obtain ⟨m, hm⟩ := k0; exact DataW.trod_lt m _ _ _ hm
  obtain ⟨fu0, hf0⟩ := h0
  obtain ⟨a0, len0, cap0, rfl⟩ := okWide_slice Try.underlying22 (hval 0 22 v0 rfl rfl)
  obtain ⟨l0, hk0, ok0⟩ := (opens_slice (d := (Kd.int .u8)) Try.underlying22 (by kernel_rfl) (opens_int Try.underlying5)) _ enc W 0 _ true fu0 _ _ hf0
  obtain ⟨A0, c0, hcs0, hc0, hr0⟩ := hk0
  simp [Value.cells] at hcs0
  obtain ⟨rfl, rfl, rfl⟩ := hcs0
  clear hA0 hval0
  obtain ⟨k, hk⟩ := Pure.FnLogic_pure l0 ok0
  refine (laws_FnLogic.calls k _ _ l0 true W hr0 hc0 rfl hk).mono fun e W' ⟨he, bel0⟩ => ?_
  have bel : Below W.heap.size W W' := bel0
  subst he
  exact ⟨_, rfl, _, _, _, [], _, [], hW', trodAll_mk1 (shut_bool Try.underlying4 _), (trodAll_cons_mk (Below.trod laidOut (by kernel_rfl) (of_decide_eq_true (by kernel_rfl)) k0 bel lt0) trodAll_mk0), rfl, bel.frame _, fun h => by cases h⟩
theorem over : Rows.fnLogicRow.holds Try.pinned (OpenSpec.ofChange Rows.fnLogicSpec) :=
  OpenClaim.holds_of_wide 6 Try.f6 rfl rfl rfl rfl rfl rfl rfl ⟨rfl, rfl, rfl, rfl, rfl⟩ rfl rfl rfl rfl rfl (by kernel_rfl) Try.func6 (by kernel_rfl)
    (of_decide_eq_true (by kernel_rfl)) (by unfold Func.isWrapper; first | (rw [if_pos (by decide +kernel)]; kernel_rfl) | (rw [if_neg (by decide +kernel)]; exact ⟨rfl, rfl⟩))
    (fun os started H enc _ => lifted os started H enc)
theorem proved : Rows.FnLogicSaid := over
end Go.Proofs.Ythipjoioicmcnaa.fnLogic
namespace Go.Proofs.Ythipjoioicmcnaa
/-- The given statement. -/
theorem fnLogic_holds : Rows.FnLogicSaid := fnLogic.proved
#print axioms fnLogic_holds
end Go.Proofs.Ythipjoioicmcnaa
