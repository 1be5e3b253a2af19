-- texts of this session, merged by a program of it (wip/gen/pack.py)
import Derived.Test.YthipjoioicmcnaaKFnMore1
import Derived.Laws.BitsLemmas
import Derived.Test.YthipjoioicmcnaaKFnMore2
import Derived.Test.YthipjoioicmcnaaKFnMore3
import Derived.Test.YthipjoioicmcnaaKFnMore4
import Derived.Test.YthipjoioicmcnaaKFnMore5
import Derived.ProofKit
import Derived.WalkKit
import Derived.Deep.Slices
import Derived.OpenShut
import Derived.ChangeVars
import Derived.ChangeOld
import Derived.Below
import Derived.Test.YthipjoioicmcnaaRows
import Derived.ShutString
set_option linter.unusedSimpArgs false
set_option linter.unusedVariables false
namespace Go.Proofs.Ythipjoioicmcnaa.Pure
open Go.RowKit Go.Proofs.YthipjoioicmcnaaW.PrintWords Go.Proofs.YthipjoioicmcnaaW.PrintLast Go.Proofs.YthipjoioicmcnaaW.PrintMore
theorem rounds {R : Type} (L : Nat → Nat → Option R) (n : Nat) (r : R) (step : ∀ k i, i < n → L (k + 1) i = L k (i + 1)) (stop : ∀ k, L (k + 1) n = some r) : ∀ k, n < k → L k 0 = some r := by
  have h : ∀ d i k, i + d = n → d < k → L k i = some r := by
    intro d
    induction d with
    | zero =>
      intro i k hi hk
      obtain ⟨k, rfl⟩ : ∃ m, k = m + 1 := ⟨k - 1, by omega⟩
      obtain rfl : i = n := by omega
      exact stop k
    | succ d ih =>
      intro i k hi hk
      obtain ⟨k, rfl⟩ : ∃ m, k = m + 1 := ⟨k - 1, by omega⟩
      rw [step k i (by omega)]
      exact ih (i + 1) k (by omega) (by omega)
  exact fun k hk => h n 0 k (by omega) hk
theorem rounds_to {R : Type} (L : Nat → Nat → R) (n : Nat) (p : Nat → Bool) (S E : Nat → R) (step : ∀ k i, i < n → (∀ j, j < i → p j = true) → p i = true → L (k + 1) i = L k (i + 1))
    (exit : ∀ k i, i < n → (∀ j, j < i → p j = true) → p i = false → L (k + 1) i = E k) (stop : ∀ k, (∀ j, j < n → p j = true) → L (k + 1) n = S k) :
    ∀ k, n < k → ∃ j, k - n - 1 ≤ j ∧ j < k ∧ L k 0 = if (List.range n).all p then S j else E j := by
  have h : ∀ d i k, i + d = n → d < k → (∀ j, j < i → p j = true) → ∃ j, k - d - 1 ≤ j ∧ j < k ∧ L k i = if (List.range n).all p then S j else E j := by
    intro d
    induction d with
    | zero =>
      intro i k hi hk hp
      obtain ⟨k, rfl⟩ : ∃ m, k = m + 1 := ⟨k - 1, by omega⟩
      obtain rfl : i = n := by omega
      refine ⟨k, by omega, by omega, ?_⟩
      rw [stop k hp, if_pos (List.all_eq_true.2 fun x hx => hp x (by simpa using hx))]
    | succ d ih =>
      intro i k hi hk hp
      obtain ⟨k, rfl⟩ : ∃ m, k = m + 1 := ⟨k - 1, by omega⟩
      cases hpi : p i with
      | true =>
        obtain ⟨j, h1, h2, h3⟩ := ih (i + 1) k (by omega) (by omega) (fun j hj => by
          rcases Nat.eq_or_lt_of_le (Nat.lt_succ_iff.1 hj) with e | e
          · exact e ▸ hpi
          · exact hp j e)
        exact ⟨j, by omega, by omega, (step k i (by omega) hp hpi).trans h3⟩
      | false =>
        refine ⟨k, by omega, by omega, ?_⟩
        rw [exit k i (by omega) hp hpi, if_neg (fun ha => by have := List.all_eq_true.1 ha i (by simp; omega); rw [hpi] at this; cases this)]
  exact fun k hk => h n 0 k (by omega) hk (fun j hj => absurd hj (by omega))
theorem rounds_pre {R : Type} (L : Nat → Nat → Option R) (n : Nat) (p : Nat → Bool) (r bad : R) (step : ∀ k i, i < n → (∀ j, j < i → p j = true) → p i = true → L (k + 1) i = L k (i + 1))
    (exit : ∀ k i, i < n → (∀ j, j < i → p j = true) → p i = false → L (k + 1) i = some bad) (stop : ∀ k, (∀ j, j < n → p j = true) → L (k + 1) n = some r) :
    ∀ k, n < k → L k 0 = some (if (List.range n).all p then r else bad) := by
  intro k hk
  obtain ⟨j, _, _, h⟩ := rounds_to L n p (fun _ => some r) (fun _ => some bad) step exit stop k hk
  rw [h]
  split <;> rfl
theorem w64 {n : Int} (h0 : -9223372036854775808 ≤ n) (h1 : n ≤ 9223372036854775807) : wrap64 n = n := by
  unfold wrap64
  omega
theorem w64s (i : Nat) (h : i < 4611686018427387904) : wrap64 ((i : Int) + 1) = ((i + 1 : Nat) : Int) := by
  rw [w64 (by omega) (by omega)]
  omega
theorem u64_of {a : Int} (h0 : 0 ≤ a) (h1 : a ≤ 18446744073709551615) : IntKind.u64.wrap a = a := by
  have h : IntKind.u64.wrap a = a % 18446744073709551616 := by
    simp [IntKind.wrap, IntKind.bits, IntKind.signed]
  rw [h]
  omega
theorem rdOf_nat {α : Type} (d : α) (xs : List α) (i : Nat) : rdOf d xs (i : Int) = xs.getD i d := by unfold rdOf; simp
theorem getD_lt {α : Type} (xs : List α) (i : Nat) (d : α) (h : i < xs.length) : xs.getD i d = xs[i] := by
  rw [List.getD_eq_getElem?_getD, List.getElem?_eq_getElem h]
  rfl
theorem take_succ_getD {α : Type} (xs : List α) (i : Nat) (d : α) (h : i < xs.length) : xs.take (i + 1) = xs.take i ++ [xs.getD i d] := by
  rw [List.take_succ_eq_append_getElem h, getD_lt xs i d h]
theorem set_front {α : Type} (p l : List α) (i : Nat) (v : α) (hl : p.length = l.length) (h : i < l.length) (hv : p[i]? = some v) : (p.take i ++ l.drop i).set i v = p.take (i + 1) ++ l.drop (i + 1) := by
  apply List.ext_getElem?
  intro j
  by_cases hj : j = i
  · subst hj
    rw [List.getElem?_set_self (by simp; omega), List.getElem?_append_left (by simp; omega), List.getElem?_take_of_lt (by omega), hv]
  · rw [List.getElem?_set_ne (by omega)]
    rcases Nat.lt_or_ge j i with h1 | h1
    · rw [List.getElem?_append_left (by simp; omega), List.getElem?_append_left (by simp; omega), List.getElem?_take_of_lt (by omega), List.getElem?_take_of_lt (by omega)]
    · rw [List.getElem?_append_right (by simp; omega), List.getElem?_append_right (by simp; omega)]
      simp only [List.length_take, List.getElem?_drop]
      congr 1
      omega
theorem bt_nat (s : ByteArray) (i : Nat) (h : i < s.size) : bt s (i : Int) = (s[i].toNat : Int) := by
  unfold bt
  simp [h]
theorem toList_data (s : ByteArray) : s.toList = s.data.toList := ByteArray.toList_eq s
end Go.Proofs.Ythipjoioicmcnaa.Pure
set_option linter.unusedSimpArgs false
set_option linter.unusedVariables false
namespace Go.Proofs.Ythipjoioicmcnaa.Pure
open Go.RowKit Go.Proofs.Ythipjoioicmcnaa.G Go.Proofs.YthipjoioicmcnaaW.PrintWords Go.Proofs.YthipjoioicmcnaaW.PrintLast Go.Proofs.YthipjoioicmcnaaW.PrintMore
theorem rounds_all {R : Type} (L : Nat → Nat → Option R) (n : Nat) (p : Nat → Bool) (r bad : R) (step : ∀ k i, i < n → p i = true → L (k + 1) i = L k (i + 1)) (exit : ∀ k i, i < n → p i = false → L (k + 1) i = some bad)
    (stop : ∀ k, L (k + 1) n = some r) : ∀ k, n < k → L k 0 = some (if (List.range n).all p then r else bad) :=
  rounds_pre L n p r bad (fun k i hi _ hp => step k i hi hp) (fun k i hi _ hp => exit k i hi hp) (fun k _ => stop k)
def sgn (b : Bool) : Int := if b then 49 else 48
def ones (l : List Bool) : ByteArray := ⟨(l.map fun b => if b then (49 : UInt8) else 48).toArray⟩
theorem ones_size (l : List Bool) : (ones l).size = l.length := by
  show (l.map fun b => if b then (49 : UInt8) else 48).toArray.size = _
  simp
theorem bt_ones (l : List Bool) (i : Nat) (h : i < l.length) : bt (ones l) (i : Int) = sgn (l.getD i false) := by
  have hs : i < (ones l).size := by rw [ones_size]; exact h
  rw [bt_nat _ i hs, getD_lt l i false h]
  have e : (ones l)[i] = if l[i] then (49 : UInt8) else 48 := by
    have h1 : (ones l).data.toList[i]? = some (ones l)[i] := by
      rw [List.getElem?_eq_getElem (by simpa using hs)]
      rfl
    have h2 : (ones l).data.toList[i]? = some (if l[i] then (49 : UInt8) else 48) := by simp [ones, h]
    exact Option.some.inj (h1.symm.trans h2)
  rw [e]
  unfold sgn
  cases l[i] <;> rfl
theorem data_inj {a b : ByteArray} (h : a.data.toList = b.data.toList) : a = b := by
  cases a; cases b
  simp only [ByteArray.mk.injEq]
  exact Array.toList_inj.1 h
theorem toList_inj {a b : ByteArray} : a.toList = b.toList ↔ a = b := by
  rw [toList_data, toList_data]
  exact ⟨data_inj, fun h => h ▸ rfl⟩
theorem strOfNums_ones (l : List Bool) : strOfNums (l.map sgn) = ones l := by
  unfold strOfNums ones
  congr 2
  rw [List.map_map]
  refine List.map_congr_left fun b _ => ?_
  cases b <;> rfl
def tok (N : Int) (s : ByteArray) : Bool := decide (0 ≤ N ∧ N ≤ 12 ∧ (s.size : Int) = 2 ^ N.toNat) && (List.range s.size).all fun (i : Nat) => bt s (i : Int) == 48 || bt s (i : Int) == 49
theorem tok_form {N : Int} {s : ByteArray} (h : tok N s = true) : ∃ (n : Nat) (l : List Bool), N = (n : Int) ∧ n ≤ 12 ∧ l.length = 2 ^ n ∧ s = ones l := by
  unfold tok at h
  simp only [Bool.and_eq_true, decide_eq_true_eq] at h
  obtain ⟨⟨h0, h1, h2⟩, h3⟩ := h
  obtain ⟨n, rfl⟩ := Int.eq_ofNat_of_zero_le h0
  have h2' : s.size = 2 ^ n := by
    rw [Int.toNat_natCast] at h2
    exact_mod_cast h2
  refine ⟨n, (List.range s.size).map fun (i : Nat) => decide (bt s (i : Int) = 49), rfl, by omega, by simp [h2'], ?_⟩
  apply data_inj
  apply List.ext_getElem?
  intro i
  rcases Nat.lt_or_ge i s.size with hi | hi
  · have hb := List.all_eq_true.1 h3 i (by simpa using hi)
    have e : s.data.toList[i]? = some s[i] := by
      rw [List.getElem?_eq_getElem (by simpa using hi)]
      rfl
    rw [e]
    have hv := bt_nat s i hi
    simp only [ones, List.map_map, List.getElem?_map, List.getElem?_range hi, Option.map_some, Function.comp]
    congr 1
    simp only [Bool.or_eq_true, beq_iff_eq] at hb
    have hd : ∀ c : UInt8, ((c.toNat : Int) = 48 → c = 48) ∧ ((c.toNat : Int) = 49 → c = 49) := fun c => ⟨fun h => UInt8.toNat_inj.1 (by have : c.toNat = 48 := by omega
                                                                                                                                         rw [this]; rfl), fun h => UInt8.toNat_inj.1 (by have : c.toNat = 49 := by omega
                                                                                                                                                                                         rw [this]; rfl)⟩
    rcases hb with hb | hb
    · have hc := (hd s[i]).1 (hv ▸ hb)
      simp [hb, hc]
    · have hc := (hd s[i]).2 (hv ▸ hb)
      simp [hb, hc]
  · rw [List.getElem?_eq_none (by simpa using hi), List.getElem?_eq_none (by simp [ones]; exact hi)]
theorem tok_ones {n : Nat} {l : List Bool} (hn : n ≤ 12) (hl : l.length = 2 ^ n) : tok (n : Int) (ones l) = true := by
  unfold tok
  rw [Bool.and_eq_true]
  refine ⟨decide_eq_true ⟨by omega, by omega, ?_⟩, List.all_eq_true.2 fun i hi => ?_⟩
  · rw [ones_size, hl, Int.toNat_natCast]
    norm_cast
  · have hi' : i < l.length := by rw [ones_size] at hi; simpa using hi
    rw [bt_ones l i hi']
    unfold sgn
    cases l.getD i false <;> rfl
theorem pow12 {n : Nat} (hn : n ≤ 12) : 2 ^ n ≤ 4096 := Nat.pow_le_pow_right (by decide) hn
theorem pow62 {n : Nat} (hn : n ≤ 61) : (2 : Int) ^ n ≤ 2305843009213693952 := by
  have h : 2 ^ n ≤ 2 ^ 61 := Nat.pow_le_pow_right (by decide) hn
  have h2 : ((2 ^ n : Nat) : Int) ≤ ((2 ^ 61 : Nat) : Int) := by exact_mod_cast h
  have h3 : ((2 ^ n : Nat) : Int) = (2 : Int) ^ n := by norm_cast
  omega
theorem pow_pos_ (n : Nat) : (1 : Int) ≤ 2 ^ n := by
  have h : 1 ≤ 2 ^ n := Nat.one_le_two_pow
  have h2 : ((1 : Nat) : Int) ≤ ((2 ^ n : Nat) : Int) := by exact_mod_cast h
  have h3 : ((2 ^ n : Nat) : Int) = (2 : Int) ^ n := by norm_cast
  omega
theorem pow2_eq (n : Nat) (hn : n ≤ 60) : ∀ k, n < k → spec_l01Pow2.f k (n : Int) = some ((2 : Int) ^ n) := by
  intro k hk
  unfold spec_l01Pow2.f
  refine rounds (fun k i => spec_l01Pow2.l0 k (n : Int) ((2 : Int) ^ i) (i : Int)) n _ ?_ ?_ k hk
  · intro k i hi
    simp only [spec_l01Pow2.l0]
    have h1 := pow62 (n := i + 1) (by omega)
    have h2 := pow_pos_ i
    rw [if_pos (by omega), w64s i (by omega), show (2 : Int) * 2 ^ i = 2 ^ (i + 1) from by rw [Int.pow_succ]; omega, w64 (by have := pow_pos_ (i + 1); omega) (by omega)]
  · intro k
    simp only [spec_l01Pow2.l0]
    rw [if_neg (by omega)]
theorem shl_eq (n : Nat) (hn : n ≤ 60) : shl .i64 1 (n : Int) = (2 : Int) ^ n := by
  unfold shl
  rw [Int.toNat_natCast, show min n IntKind.i64.bits = n from by simp [IntKind.bits]; omega, Int.one_mul, IntKind.wrap_i64]
  have h1 := pow62 (n := n) (by omega)
  have h2 := pow_pos_ n
  omega
theorem impl_TableOk_eq (N : Int) (s : ByteArray) (hs : s.size ≤ 1099511627776) : ∀ k, s.size + 20 < k → impl_TableOk.f k N s = some (tok N s) := by
  intro k hk
  obtain ⟨k, rfl⟩ : ∃ m, k = m + 1 := ⟨k - 1, by omega⟩
  unfold impl_TableOk.f impl_within.f
  by_cases h0 : N ≥ 0
  · rw [if_pos h0]
    by_cases h1 : N ≤ 12
    · obtain ⟨n, rfl⟩ := Int.eq_ofNat_of_zero_le h0
      simp only [h1, decide_true, Option.bind_some, if_true]
      rw [u64_of (by omega) (by omega), if_pos (by omega), shl_eq n (by omega)]
      simp only [impl_TableOk.j0]
      by_cases h2 : (s.size : Int) = 2 ^ n
      · rw [if_neg (by simp [h2])]
        have h := rounds_all (fun k i => impl_TableOk.l0 k (s.size : Int) (i : Int) (n : Int) s) s.size (fun i => bt s i == 48 || bt s i == 49) true false ?_ ?_ ?_ k (by omega)
        · refine h.trans ?_
          unfold tok
          rw [decide_eq_true (⟨h0, h1, by rw [Int.toNat_natCast]; exact h2⟩ : 0 ≤ (n : Int) ∧ (n : Int) ≤ 12 ∧ (s.size : Int) = 2 ^ (n : Int).toNat), Bool.true_and]
          congr 1
          split <;> simp_all
        · intro k i hi hp
          simp only [impl_TableOk.l0]
          simp only [Bool.or_eq_true, beq_iff_eq] at hp
          rw [if_pos (by omega), if_pos (by omega), if_pos (by omega), w64s i (by omega)]
          rcases hp with hp | hp
          · rw [if_pos hp]
          · rw [if_neg (by omega), if_pos hp]
        · intro k i hi hp
          simp only [impl_TableOk.l0]
          simp only [Bool.or_eq_false_iff, beq_eq_false_iff_ne] at hp
          rw [if_pos (by omega), if_pos (by omega), if_pos (by omega), if_neg hp.1, if_neg hp.2]
        · intro k
          simp only [impl_TableOk.l0]
          rw [if_neg (by omega)]
      · rw [if_pos (by simpa using h2)]
        unfold tok
        rw [decide_eq_false (by rintro ⟨_, _, h⟩; rw [Int.toNat_natCast] at h; exact h2 h), Bool.false_and]
    · simp only [h1, decide_false, Option.bind_some]
      simp only [Bool.false_eq_true, if_false, impl_TableOk.j0, if_true]
      unfold tok
      rw [decide_eq_false (by omega), Bool.false_and]
  · rw [if_neg h0]
    simp only [Option.bind_some, Bool.false_eq_true, if_false, impl_TableOk.j0, if_true]
    unfold tok
    rw [decide_eq_false (by omega), Bool.false_and]
end Go.Proofs.Ythipjoioicmcnaa.Pure
set_option linter.unusedSimpArgs false
set_option linter.unusedVariables false
namespace Go.Proofs.Ythipjoioicmcnaa.Pure
open Go.RowKit Go.Proofs.Ythipjoioicmcnaa.G Go.Proofs.YthipjoioicmcnaaW.PrintWords Go.Proofs.YthipjoioicmcnaaW.PrintLast Go.Proofs.YthipjoioicmcnaaW.PrintMore
theorem wraps_i64 (n : Int) (h₀ : 0 ≤ n) (h₁ : n < 2 ^ 62) : IntKind.i64.wrap n = n := by rw [IntKind.wrap_i64]; omega
end Go.Proofs.Ythipjoioicmcnaa.Pure
set_option linter.unusedSimpArgs false
set_option linter.unusedVariables false
namespace Go.Proofs.Ythipjoioicmcnaa.Pure
open Go.RowKit Go.Proofs.Ythipjoioicmcnaa.G Go.Proofs.YthipjoioicmcnaaW.PrintWords Go.Proofs.YthipjoioicmcnaaW.PrintLast Go.Proofs.YthipjoioicmcnaaW.PrintMore
theorem and255 (x : Int) : 0 ≤ Go.bits .and .i64 x 255 ∧ Go.bits .and .i64 x 255 ≤ 255 := by
  simp only [Go.bits, BitVec.toNat_and]
  have h : (BitVec.ofInt IntKind.i64.bits x).toNat &&& (BitVec.ofInt IntKind.i64.bits 255).toNat ≤ 255 := Nat.le_trans Nat.and_le_right (by decide)
  rw [wraps_i64 _ (by omega) (by omega)]
  omega
def stOk (b : List Int) (i : Int) : Prop := 0 ≤ i ∧ i ≤ b.length ∧ b.length ≤ 1099511627776
theorem byte_ok {b : List Int} {i : Int} (h : Int) (hi : stOk b i) : ∃ v i' h', spec_l01Byte.f b i h = some (v, i', h') ∧ 0 ≤ v ∧ v ≤ 255 ∧ stOk b i' := by
  unfold spec_l01Byte.f
  obtain ⟨h0, h1, h2⟩ := hi
  by_cases hc : i < (b.length : Int)
  · rw [if_pos hc, if_pos h0]
    exact ⟨_, _, _, rfl, (and255 _).1, (and255 _).2, by rw [w64 (by omega) (by omega)]; exact ⟨by omega, by omega, h2⟩⟩
  · rw [if_neg hc]
    exact ⟨_, _, _, rfl, (and255 _).1, (and255 _).2, h0, h1, h2⟩
theorem below_ok {b : List Int} {i : Int} (h a : Int) (hi : stOk b i) (h0 : 0 < a) (h1 : a ≤ 256) : ∃ v i' h', spec_l01Below.f b i h a = some (v, i', h') ∧ 0 ≤ v ∧ v < a ∧ stOk b i' := by
  unfold spec_l01Below.f
  obtain ⟨v, i', h', e, hv0, hv1, hi'⟩ := byte_ok h hi
  rw [if_neg (by omega), if_pos h1, e, Option.bind_some, if_neg (by omega)]
  refine ⟨_, _, _, rfl, ?_, ?_, hi'⟩
  · simp only; rw [Int.tmod_eq_emod_of_nonneg hv0]; exact Int.emod_nonneg _ (by omega)
  · simp only; rw [Int.tmod_eq_emod_of_nonneg hv0]; exact Int.emod_lt_of_pos _ h0
theorem once_ok {b : List Int} {i : Int} (h a : Int) (hi : stOk b i) (h0 : 0 < a) (h1 : a ≤ 256) : ∃ t i' h', spec_l01Once.f b i h a = some (t, i', h') ∧ stOk b i' := by
  unfold spec_l01Once.f
  obtain ⟨v, i', h', e, _, _, hi'⟩ := below_ok h a hi h0 h1
  rw [e, Option.bind_some]
  exact ⟨_, _, _, rfl, hi'⟩
theorem st_zero {b : List Int} (hb : b.length ≤ 1099511627776) : stOk b 0 := ⟨by omega, by omega, hb⟩
theorem table_fill (n : Int) (b : List Int) (i h : Int) (xs : List Int) (hx : xs.length ≤ 4096) : ∀ k, xs.length < k → spec_l06Table.l1 k n xs 0 b i h = some (n, ones (List.replicate xs.length true), i, h) := by
  intro k hk
  rw [← strOfNums_ones, List.map_replicate]
  have h1 := rounds (fun k j => spec_l06Table.l1 k n ((List.replicate xs.length (sgn true)).take j ++ xs.drop j) (j : Int) b i h) xs.length (n, strOfNums (List.replicate xs.length (sgn true)), i, h) ?_ ?_ k hk
  · simpa using h1
  · intro k j hj
    simp only [spec_l06Table.l1]
    rw [if_pos (by simp; omega), if_pos (by omega), w64s j (by omega), Int.toNat_natCast, show (49 : Int) = sgn true from rfl, set_front (List.replicate xs.length (sgn true)) xs j (sgn true) (by simp) hj (by simp [hj])]
  · intro k
    simp only [spec_l06Table.l1]
    rw [if_neg (by simp), List.take_of_length_le (by simp)]
    simp
theorem bit_sgn {v : Int} (h0 : 0 ≤ v) (h1 : v < 2) : wrap64 (48 + v) % 256 = sgn (v == 1) := by
  rcases (show v = 0 ∨ v = 1 by omega) with h | h <;> subst h <;> decide +kernel
end Go.Proofs.Ythipjoioicmcnaa.Pure
set_option linter.unusedSimpArgs false
set_option linter.unusedVariables false
namespace Go.Proofs.Ythipjoioicmcnaa.Pure
open Go.RowKit Go.Proofs.YthipjoioicmcnaaW.PrintWords Go.Proofs.YthipjoioicmcnaaW.PrintLast Go.Proofs.YthipjoioicmcnaaW.PrintMore
theorem ev_some {α : Type} (r : α) : Ev (fun _ => some r) r := ⟨0, fun _ _ => rfl⟩
theorem ev_ge {α : Type} {g : Nat → Option α} {r : α} (n : Nat) (h : ∀ k, n < k → g k = some r) : Ev g r := ⟨n + 1, fun k hk => h k (by omega)⟩
theorem ev_step {α : Type} {g f : Nat → Option α} {r : α} (h : ∀ k, g (k + 1) = f k) (e : Ev f r) : Ev g r := by
  obtain ⟨K, e⟩ := e
  refine ⟨K + 1, fun k hk => ?_⟩
  obtain ⟨m, rfl⟩ : ∃ m, k = m + 1 := ⟨k - 1, by omega⟩
  rw [h m]
  exact e m (by omega)
theorem ev_succ {α : Type} {g : Nat → Option α} {r : α} (e : Ev (fun k => g (k + 1)) r) : Ev g r := ev_step (fun _ => rfl) e
theorem ev_bind {α β : Type} {g : Nat → Option α} {f : Nat → α → Option β} {a : α} {r : β} (h : Ev g a) (e : Ev (fun n => f n a) r) : Ev (fun n => (g n).bind (f n)) r := by
  obtain ⟨K, h⟩ := h
  obtain ⟨M, e⟩ := e
  refine ⟨K + M, fun n hn => ?_⟩
  show (g n).bind (f n) = some r
  rw [h n (by omega)]
  exact e n (by omega)
theorem ev_rounds {α : Type} {g : Nat → Option α} {r : α} (h : Ev g r) : ∃ k, g k = some r := by
  obtain ⟨K, h⟩ := h
  exact ⟨K, h K (Nat.le_refl _)⟩
theorem ev_loop {α : Type} (L : Nat → Nat → Option α) (n : Nat) (r : α) (step : ∀ i, i < n → Ev (fun k => L k (i + 1)) r → Ev (fun k => L k i) r) (stop : Ev (fun k => L k n) r) : ∀ i, i ≤ n → Ev (fun k => L k i) r := by
  have h : ∀ d i, i + d = n → Ev (fun k => L k i) r := by
    intro d
    induction d with
    | zero =>
      intro i hi
      obtain rfl : i = n := by omega
      exact stop
    | succ d ih => intro i hi; exact step i (by omega) (ih (i + 1) (by omega))
  exact fun i hi => h (n - i) i (by omega)
end Go.Proofs.Ythipjoioicmcnaa.Pure
set_option linter.unusedSimpArgs false
set_option linter.unusedVariables false
namespace Go.Proofs.Ythipjoioicmcnaa.Pure
open Go.RowKit Go.Proofs.Ythipjoioicmcnaa.G Go.Proofs.YthipjoioicmcnaaW.PrintWords Go.Proofs.YthipjoioicmcnaaW.PrintLast Go.Proofs.YthipjoioicmcnaaW.PrintMore
theorem pow_cast' (j : Nat) : (2 : Int) ^ j = ((2 ^ j : Nat) : Int) := by norm_cast
theorem new_ev (b : List Int) (hb : b.length ≤ 1099511627776) : ∃ h, Ev (fun k => spec_l01New.f k b) (b, 0, h) := by
  have H : ∀ d (i : Nat) h, i + d = b.length → ∃ h', Ev (fun k => spec_l01New.l0 k b h (i : Int)) (b, 0, h') := by
    intro d
    induction d with
    | zero =>
      intro i h hi
      refine ⟨?w0, ev_succ ?p0⟩
      case p0 =>
        simp only [spec_l01New.l0, if_neg (show ¬ (i : Int) < (b.length : Int) by omega)]
        exact ev_some _
    | succ d ih =>
      intro i h hi
      by_cases h4 : (i : Int) < 4000
      · have hh := fun z => ih (i + 1) z (by omega)
        refine ⟨?w1, ev_succ ?p1⟩
        case p1 =>
          simp only [spec_l01New.l0, if_pos (show (i : Int) < (b.length : Int) by omega), if_pos h4, if_pos (show 0 ≤ (i : Int) by omega), w64s i (show i < 4611686018427387904 by omega)]
          exact (hh _).choose_spec
      · refine ⟨?w2, ev_succ ?p2⟩
        case p2 =>
          simp only [spec_l01New.l0, if_pos (show (i : Int) < (b.length : Int) by omega), if_neg h4]
          exact ev_some _
  exact H b.length 0 _ (by omega)
theorem table_ev (n : Nat) (hn : n ≤ 12) {b : List Int} {i : Int} (h : Int) (hi : stOk b i) : ∃ l i' h', Ev (fun k => spec_l06Table.f k b i h (n : Int)) ((n : Int), ones l, i', h') ∧ l.length = 2 ^ n ∧ stOk b i' := by
  have hp := pow12 hn
  have pw : Ev (fun k => spec_l01Pow2.f k (n : Int)) ((2 ^ n : Nat) : Int) := ev_ge n (fun k hk => by rw [pow2_eq n (by omega) k hk, pow_cast'])
  have H : ∀ d (j : Nat) (acc : List Bool) (m i h : Int), j + d = 2 ^ n → acc.length = j → stOk b i → ∃ l i' h', Ev (fun k => spec_l06Table.l0 k (n : Int) (acc.map sgn) m (j : Int) b i h) ((n : Int), ones l, i', h') ∧ l.length = 2 ^ n ∧ stOk b i' := by
    intro d
    induction d with
    | zero =>
      intro j acc m i h hj ha hi
      obtain ⟨t, i', h', e, hi'⟩ := once_ok h 8 hi (by omega) (by omega)
      cases t
      · refine ⟨acc, i', h', ev_succ ?_, by omega, hi'⟩
        simp only [spec_l06Table.l0]
        refine ev_bind pw ?_
        simp only [if_neg (show ¬ (j : Int) < ((2 ^ n : Nat) : Int) by omega), e, Option.bind_some, Bool.false_eq_true, if_false, strOfNums_ones]
        exact ev_some _
      · refine ⟨List.replicate (acc.map sgn).length true, i', h', ev_succ ?_, by simp; omega, hi'⟩
        simp only [spec_l06Table.l0]
        refine ev_bind pw ?_
        simp only [if_neg (show ¬ (j : Int) < ((2 ^ n : Nat) : Int) by omega), e, Option.bind_some, if_true]
        exact ev_ge _ (table_fill (n : Int) b i' h' (acc.map sgn) (by simp; omega))
    | succ d ih =>
      intro j acc m i h hj ha hi
      have next : ∀ (v : Bool) (i h : Int), stOk b i → ∃ l i' h', Ev (fun k => if (acc.map sgn).length < 140737488355328 then spec_l06Table.l0 k (n : Int) (acc.map sgn ++ [sgn v]) m (wrap64 ((j : Int) + 1)) b i h else none) ((n : Int), ones l, i', h') ∧ l.length = 2 ^ n ∧ stOk b i' := by
        intro v i h hi
        simp only [if_pos (show (acc.map sgn).length < 140737488355328 by simp; omega), w64s j (by omega), show acc.map sgn ++ [sgn v] = (acc ++ [v]).map sgn from by simp]
        exact ih (j + 1) (acc ++ [v]) m i h (by omega) (by simp; omega) hi
      obtain ⟨v, i', h', e, hv0, hv1, hi'⟩ := below_ok h 2 hi (by omega) (by omega)
      have hj0 : (j : Int) < ((2 ^ n : Nat) : Int) := by omega
      by_cases h0 : m = 0
      · have hb2 : 0 ≤ Int.tmod (wrap64 (Int.tdiv (j : Int) 2)) 2 ∧ Int.tmod (wrap64 (Int.tdiv (j : Int) 2)) 2 < 2 := by
          rw [Int.tdiv_eq_ediv_of_nonneg (by omega), w64 (by omega) (by omega), Int.tmod_eq_emod_of_nonneg (by omega)]
          omega
        obtain ⟨l, i2, h2, e2, q⟩ := next (Int.tmod (wrap64 (Int.tdiv (j : Int) 2)) 2 == 1) i' h' hi'
        refine ⟨l, i2, h2, ev_succ ?_, q⟩
        simp only [spec_l06Table.l0]
        refine ev_bind pw ?_
        simp only [if_pos hj0, e, Option.bind_some, if_pos h0, bit_sgn hb2.1 hb2.2]
        exact e2
      by_cases h1 : m = 1
      · obtain ⟨t, i2, h2, e2, hi2⟩ := once_ok h' 2 hi' (by omega) (by omega)
        cases t
        · obtain ⟨l, i3, h3, e3, q⟩ := next (v == 1) i2 h2 hi2
          refine ⟨l, i3, h3, ev_succ ?_, q⟩
          simp only [spec_l06Table.l0]
          refine ev_bind pw ?_
          simp only [if_pos hj0, e, e2, Option.bind_some, if_neg h0, if_pos h1, bit_sgn hv0 hv1, Bool.false_eq_true, if_false]
          exact e3
        · obtain ⟨l, i3, h3, e3, q⟩ := next false i2 h2 hi2
          refine ⟨l, i3, h3, ev_succ ?_, q⟩
          simp only [spec_l06Table.l0]
          refine ev_bind pw ?_
          simp only [if_pos hj0, e, e2, Option.bind_some, if_neg h0, if_pos h1, if_true]
          exact e3
      · obtain ⟨l, i3, h3, e3, q⟩ := next (v == 1) i' h' hi'
        refine ⟨l, i3, h3, ev_succ ?_, q⟩
        simp only [spec_l06Table.l0]
        refine ev_bind pw ?_
        simp only [if_pos hj0, e, Option.bind_some, if_neg h0, if_neg h1, bit_sgn hv0 hv1]
        exact e3
  obtain ⟨m, i', h', e, _, _, hi'⟩ := below_ok h 4 hi (by omega) (by omega)
  obtain ⟨l, i2, h2, e2, q⟩ := H (2 ^ n) 0 [] m i' h' (by omega) rfl hi'
  refine ⟨l, i2, h2, ?_, q⟩
  unfold spec_l06Table.f
  simp only [e, Option.bind_some]
  exact e2
theorem row_ev (n : Nat) (hn : n ≤ 12) {b : List Int} {i : Int} (h : Int) (hi : stOk b i) : ∃ r i' h', Ev (fun k => spec_l08Row.f k b i h (n : Int)) (r, i', h') ∧ r.length = n ∧ stOk b i' := by
  have H : ∀ d (j : Nat) (acc : List Bool) (i h : Int), j + d = n → acc.length = j → stOk b i → ∃ l i' h', Ev (fun k => spec_l08Row.l0 k (n : Int) acc (j : Int) b i h) (l, i', h') ∧ l.length = n ∧ stOk b i' := by
    intro d
    induction d with
    | zero =>
      intro j acc i h hj ha hi
      refine ⟨acc, i, h, ev_succ ?_, by omega, hi⟩
      simp only [spec_l08Row.l0, if_neg (show ¬ (j : Int) < (n : Int) by omega)]
      exact ev_some _
    | succ d ih =>
      intro j acc i h hj ha hi
      obtain ⟨t, i', h', e, hi'⟩ := once_ok h 2 hi (by omega) (by omega)
      obtain ⟨l, i2, h2, e2, q⟩ := ih (j + 1) (acc ++ [t]) i' h' (by omega) (by simp; omega) hi'
      refine ⟨l, i2, h2, ev_succ ?_, q⟩
      simp only [spec_l08Row.l0, if_pos (show (j : Int) < (n : Int) by omega), e, Option.bind_some, if_pos (show acc.length < 140737488355328 by omega), w64s j (show j < 4611686018427387904 by omega)]
      exact e2
  unfold spec_l08Row.f
  exact H n 0 [] i h (by omega) rfl hi
theorem drawCase_ev (b : List Int) (hb : b.length ≤ 1099511627776) : ∃ r n l, Ev (fun k => spec_DrawCase.f k b) (r, ((n : Nat) : Int), ones l) ∧ n ≤ 6 ∧ r.length = n ∧ l.length = 2 ^ n := by
  unfold spec_DrawCase.f
  obtain ⟨h, e⟩ := new_ev b hb
  obtain ⟨n, i1, h1, e1, hn0, hn1, hi1⟩ := below_ok h 7 (st_zero hb) (by omega) (by omega)
  obtain ⟨n, rfl⟩ := Int.eq_ofNat_of_zero_le hn0
  obtain ⟨r, i2, h2, e2, hr, hi2⟩ := row_ev n (by omega) h1 hi1
  obtain ⟨l, i3, h3, e3, hl, _⟩ := table_ev n (by omega) h2 hi2
  refine ⟨r, n, l, ?_, by omega, hr, hl⟩
  refine ev_bind e ?_
  simp only [e1, Option.bind_some]
  refine ev_bind e2 ?_
  refine ev_bind e3 ?_
  exact ev_some _
end Go.Proofs.Ythipjoioicmcnaa.Pure
set_option linter.unusedSimpArgs false
set_option linter.unusedVariables false
namespace Go.Proofs.Ythipjoioicmcnaa.Pure
open Go.RowKit Go.Proofs.Ythipjoioicmcnaa.G Go.Proofs.YthipjoioicmcnaaW.PrintWords Go.Proofs.YthipjoioicmcnaaW.PrintLast Go.Proofs.YthipjoioicmcnaaW.PrintMore
def flags (s : ByteArray) : List Bool := s.data.toList.map fun c => c == 49
theorem flags_ones (l : List Bool) : flags (ones l) = l := by
  unfold flags
  simp only [ones, List.map_map]
  exact (List.map_congr_left (fun b _ => by cases b <;> rfl)).trans (List.map_id l)
end Go.Proofs.Ythipjoioicmcnaa.Pure
set_option linter.unusedSimpArgs false
set_option linter.unusedVariables false
namespace Go.Proofs.Ythipjoioicmcnaa.Pure
open Go.RowKit Go.Proofs.Ythipjoioicmcnaa.G Go.Proofs.YthipjoioicmcnaaW.PrintWords Go.Proofs.YthipjoioicmcnaaW.PrintLast Go.Proofs.YthipjoioicmcnaaW.PrintMore
theorem ones_data (l : List Bool) : (ones l).data.toList = l.map fun b => if b then (49 : UInt8) else 48 := by simp [ones]
theorem contains1 (l : List Bool) : (ones l).data.toList.contains 49 = l.contains true := by
  rw [ones_data]
  induction l with
  | nil => rfl
  | cons b l ih =>
    rw [List.map_cons, List.contains_cons, List.contains_cons, ih]
    congr 1
    cases b <;> rfl
theorem contains0 (l : List Bool) : (ones l).data.toList.contains 48 = l.contains false := by
  rw [ones_data]
  induction l with
  | nil => rfl
  | cons b l ih =>
    rw [List.map_cons, List.contains_cons, List.contains_cons, ih]
    congr 1
    cases b <;> rfl
theorem impl_Table_known_eq (N : Int) (l : List Bool) : impl_Table_known.f N (ones l) = some (if l.contains true then (if l.contains false then -1 else 1) else 0) := by
  unfold impl_Table_known.f
  rw [show strings_Contains.f (ones l) ⟨#[49]⟩ = some ((ones l).data.toList.contains 49) from rfl, show strings_Contains.f (ones l) ⟨#[48]⟩ = some ((ones l).data.toList.contains 48) from rfl, contains1, contains0]
  have hb : ∀ b, impl_bit.f b = some (if b then 1 else 0) := fun b => by cases b <;> rfl
  simp only [Option.bind_some, hb]
  cases l.contains true <;> cases l.contains false <;> rfl
end Go.Proofs.Ythipjoioicmcnaa.Pure
set_option linter.unusedSimpArgs false
set_option linter.unusedVariables false
namespace Go.Proofs.Ythipjoioicmcnaa.Pure
open Go.RowKit Go.Proofs.Ythipjoioicmcnaa.G Go.Proofs.YthipjoioicmcnaaW.PrintWords Go.Proofs.YthipjoioicmcnaaW.PrintLast Go.Proofs.YthipjoioicmcnaaW.PrintMore
theorem ones_extract (l : List Bool) (a b : Nat) : (ones l).extract a b = ones ((l.take b).drop a) := by
  apply data_inj
  rw [ByteArray.data_extract]
  simp only [ones, Array.toList_extract, List.extract_eq_take_drop, List.map_drop, List.map_take]
  rw [List.drop_take]
def halfL (l : List Bool) (h : Bool) : List Bool := if h then l.drop (l.length / 2) else l.take (l.length / 2)
theorem halfL_len {n : Nat} {l : List Bool} (hl : l.length = 2 ^ (n + 1)) (h : Bool) : (halfL l h).length = 2 ^ n := by
  rw [Nat.pow_succ] at hl
  cases h <;> simp [halfL] <;> omega
def halfT (N : Int) (s : ByteArray) (h : Int) : Int × ByteArray × Bool := if tok N s && (N != 0) && (h == 0 || h == 1) then (N - 1, ones (halfL (flags s) (h == 1)), true) else (0, ⟨#[]⟩, false)
theorem impl_half_eq (n : Nat) (l : List Bool) (hn : n ≤ 11) (hl : l.length = 2 ^ (n + 1)) (h : Int) : impl_Table_half.f ((n + 1 : Nat) : Int) (ones l) h = some ((n : Int), ones (halfL l (h != 0))) := by
  have hp := pow12 (n := n + 1) (by omega)
  unfold impl_Table_half.f
  rw [ones_size, show ((l.length : Nat) : Int) / 2 = ((l.length / 2 : Nat) : Int) by omega, w64 (n := ((l.length / 2 : Nat) : Int)) (by omega) (by omega), w64 (n := ((n + 1 : Nat) : Int) - 1) (by omega) (by omega), show ((n + 1 : Nat) : Int) - 1 = (n : Int) by omega, Int.toNat_natCast]
  by_cases h0 : h = 0
  · rw [if_pos h0, if_pos (by omega), if_pos (by omega), ones_extract, h0]
    rfl
  · have e : (h != 0) = true := bne_iff_ne.2 h0
    rw [if_neg h0, if_pos (by omega), if_pos (by omega), ones_extract, List.take_of_length_le (by omega), e]
    rfl
theorem impl_Half_eq (N : Int) (s : ByteArray) (h : Int) (hs : s.size ≤ 1099511627776) : ∀ k, s.size + 20 < k → impl_Half.f k N s h = some (halfT N s h) := by
  intro k hk
  unfold impl_Half.f halfT
  rw [impl_TableOk_eq N s hs k hk, Option.bind_some]
  cases ht : tok N s with
  | false => rfl
  | true =>
    obtain ⟨n, l, rfl, hn, hl, rfl⟩ := tok_form ht
    rw [if_pos rfl]
    by_cases h0 : (n : Int) = 0
    · rw [if_pos h0, h0]
      rfl
    · have e0 : ((n : Int) != 0) = true := bne_iff_ne.2 h0
      obtain ⟨m, rfl⟩ : ∃ m, n = m + 1 := ⟨n - 1, by omega⟩
      rw [if_neg h0, e0, impl_half_eq m l (by omega) hl h, flags_ones, show ((m + 1 : Nat) : Int) - 1 = (m : Int) by omega]
      by_cases h1 : h = 0
      · subst h1
        rw [if_pos rfl, Option.bind_some]
        rfl
      · rw [if_neg h1]
        by_cases h2 : h = 1
        · subst h2
          rw [if_pos rfl, Option.bind_some]
          rfl
        · rw [if_neg h2, show (h == 0 || h == 1) = false from by simp [h1, h2]]
          rfl
def dec : List Bool → List Bool → Bool
  | [], l => l.getD 0 false
  | a :: r, l => if a then dec r (halfL l false) && dec r (halfL l true) else dec r (halfL l false) || dec r (halfL l true)
theorem dec_const (b : Bool) : ∀ (r l : List Bool), l.length = 2 ^ r.length → l.contains (!b) = false → dec r l = b := by
  intro r
  induction r with
  | nil =>
    intro l hl hc
    match l, hl with
    | [x], _ => cases b <;> cases x <;> simp_all [dec]
  | cons a r ih =>
    intro l hl hc
    have hsub : ∀ h, (halfL l h).contains (!b) = false := by
      intro h
      rw [← Bool.not_eq_true, List.contains_iff_mem] at hc ⊢
      intro hm
      apply hc
      cases h
      · exact List.mem_of_mem_take hm
      · exact List.mem_of_mem_drop hm
    simp only [dec]
    rw [ih _ (halfL_len (by simpa using hl) false) (hsub false), ih _ (halfL_len (by simpa using hl) true) (hsub true)]
    cases a <;> cases b <;> rfl
def b01 (b : Bool) : Int := if b then 1 else 0
theorem impl_decide_eq : ∀ (r l : List Bool), r.length ≤ 12 → l.length = 2 ^ r.length → ∀ k, r.length + 1 < k → impl_decide.f k r (r.length : Int) (ones l) = some (b01 (dec r l)) := by
  intro r
  induction r with
  | nil =>
    intro l _ hl k hk
    obtain ⟨k, rfl⟩ : ∃ m, k = m + 1 := ⟨k - 1, by omega⟩
    simp only [impl_decide.f]
    match l, hl with
    | [x], _ =>
      rw [impl_Table_known_eq, Option.bind_some]
      cases x <;> rfl
  | cons a r ih =>
    intro l hr hl k hk
    obtain ⟨k, rfl⟩ : ∃ m, k = m + 1 := ⟨k - 1, by omega⟩
    simp only [List.length_cons] at hr hl hk
    simp only [impl_decide.f]
    rw [impl_Table_known_eq, Option.bind_some]
    cases h1 : l.contains true
    · rw [show (if false = true then (if l.contains false = true then (-1 : Int) else 1) else 0) = 0 from rfl, if_pos (by decide), dec_const false (a :: r) l hl (by simpa using h1)]
      rfl
    · cases h0 : l.contains false
      · rw [show (if true = true then (if false = true then (-1 : Int) else 1) else 0) = 1 from rfl, if_pos (by decide), dec_const true (a :: r) l hl (by simpa using h0)]
        rfl
      · rw [show (if true = true then (if true = true then (-1 : Int) else 1) else 0) = -1 from rfl, if_neg (by decide), List.length_cons, if_pos (by omega), impl_half_eq r.length l (by omega) hl 0, Option.bind_some, impl_half_eq r.length l (by omega) hl 1]
        simp only [Option.bind_some, List.drop_one, List.tail_cons]
        rw [ih _ (by omega) (halfL_len hl _) k (by omega), ih _ (by omega) (halfL_len hl _) k (by omega)]
        simp only [Option.bind_some]
        rw [if_pos (by omega), show rdOf false (a :: r) 0 = a from rfl]
        simp only [dec]
        have e0 : ((0 : Int) != 0) = false := rfl
        have e1 : ((1 : Int) != 0) = true := rfl
        rw [e0, e1]
        cases a <;> cases dec r (halfL l false) <;> cases dec r (halfL l true) <;> rfl
def decT (r : List Bool) (N : Int) (s : ByteArray) : Int × Bool := if tok N s && ((r.length : Int) == N) then (b01 (dec r (flags s)), true) else (0, false)
theorem impl_Decide_eq (r : List Bool) (N : Int) (s : ByteArray) (hs : s.size ≤ 1099511627776) : ∀ k, s.size + 40 < k → impl_Decide.f k r N s = some (decT r N s) := by
  intro k hk
  unfold impl_Decide.f impl_rowed.f decT
  rw [impl_TableOk_eq N s hs k (by omega), Option.bind_some]
  cases ht : tok N s with
  | false => rfl
  | true =>
    obtain ⟨n, l, rfl, hn, hl, rfl⟩ := tok_form ht
    rw [if_pos rfl, Option.bind_some, flags_ones, Bool.true_and]
    by_cases hr : (r.length : Int) = (n : Int)
    · have hr2 : r.length = n := by omega
      subst hr2
      rw [if_pos (by simp), if_pos (by simp), impl_decide_eq r l hn hl k (by omega)]
      rfl
    · rw [if_neg (by simpa using hr), if_neg (by simpa using hr)]
def choT (r : List Bool) (N : Int) (s : ByteArray) : Int × Bool := if tok N s && ((r.length : Int) == N) && (N != 0) then (b01 (dec (r.drop 1) (halfL (flags s) false) != dec r (flags s)), true) else (0, false)
theorem impl_Choose_eq (r : List Bool) (N : Int) (s : ByteArray) (hs : s.size ≤ 1099511627776) : ∀ k, s.size + 40 < k → impl_Choose.f k r N s = some (choT r N s) := by
  intro k hk
  unfold impl_Choose.f impl_rowed.f choT
  rw [impl_TableOk_eq N s hs k (by omega), Option.bind_some]
  cases ht : tok N s with
  | false => rfl
  | true =>
    obtain ⟨n, l, rfl, hn, hl, rfl⟩ := tok_form ht
    rw [if_pos rfl, Option.bind_some, flags_ones, Bool.true_and]
    by_cases hr : (r.length : Int) = (n : Int)
    · rw [show ((r.length : Int) == (n : Int)) = true from by simpa using hr, if_pos rfl, Bool.true_and]
      by_cases h0 : (n : Int) = 0
      · rw [if_pos h0, if_neg (by simp [h0])]
      · rw [if_neg h0, if_pos (by simpa using h0)]
        cases r with
        | nil => simp at hr; omega
        | cons a r =>
          simp only [List.length_cons] at hr
          have hr2 : n = r.length + 1 := by omega
          subst hr2
          unfold impl_choose.f
          have e := impl_decide_eq (a :: r) l hn hl k (by simp; omega)
          simp only [List.length_cons] at e
          rw [List.length_cons, if_pos (by omega), impl_half_eq r.length l (by omega) hl 0, Option.bind_some, e]
          simp only [List.drop_one, List.tail_cons]
          rw [impl_decide_eq r _ (by omega) (halfL_len hl _) k (by omega)]
          have e0 : ((0 : Int) != 0) = false := rfl
          rw [e0]
          generalize dec r (halfL l false) = p
          generalize dec (a :: r) l = q
          cases p <;> cases q <;> rfl
    · rw [show ((r.length : Int) == (n : Int)) = false from by simpa using hr, if_neg (by decide)]
      rfl
end Go.Proofs.Ythipjoioicmcnaa.Pure
set_option linter.unusedSimpArgs false
set_option linter.unusedVariables false
namespace Go.Proofs.Ythipjoioicmcnaa.Pure
open Go.RowKit Go.Proofs.Ythipjoioicmcnaa.G Go.Proofs.YthipjoioicmcnaaW.PrintWords Go.Proofs.YthipjoioicmcnaaW.PrintLast Go.Proofs.YthipjoioicmcnaaW.PrintMore
def owner (v : Int) (l : List Bool) : List Bool := if v = 0 ∨ v = 1 then l.map (fun a => a == (v == 0)) else []
theorem impl_Owner_eq (v : Int) (l : List Bool) (hl : l.length ≤ 1048576) : ∀ k, l.length + 1 < k → impl_Owner.f k l v = some (owner v l) := by
  intro k hk
  obtain ⟨k, rfl⟩ : ∃ m, k = m + 1 := ⟨k - 1, by omega⟩
  have loop : v = 0 ∨ v = 1 → impl_Owner.l0 k v [] l (l.length : Int) 0 = some (owner v l) := by
    intro hv
    have h := rounds (fun k i => impl_Owner.l0 k v ((l.take i).map (fun a => a == (v == 0))) l (l.length : Int) (i : Int)) l.length (l.map (fun a => a == (v == 0))) ?_ ?_ k (by omega)
    · rw [owner, if_pos hv]
      simpa using h
    · intro k i hi
      simp only [impl_Owner.l0]
      rw [if_pos (by omega), if_pos (by omega), if_pos (by omega), if_pos (by simp; omega), rdOf_nat, w64s i (by omega), take_succ_getD l i false hi, List.map_append]
      rfl
    · intro k
      simp only [impl_Owner.l0]
      rw [if_neg (by omega), List.take_length]
  unfold impl_Owner.f
  simp only [Option.bind_some, impl_Owner.j0]
  by_cases h0 : v = 0
  · rw [if_pos h0, if_neg (by decide)]
    exact loop (.inl h0)
  · rw [if_neg h0]
    by_cases h1 : v = 1
    · rw [if_neg (by simp [h1])]
      exact loop (.inr h1)
    · rw [if_pos (by simpa using h1), owner, if_neg (by omega)]
end Go.Proofs.Ythipjoioicmcnaa.Pure
set_option linter.unusedSimpArgs false
set_option linter.unusedVariables false
namespace Go.Proofs.Ythipjoioicmcnaa.Pure
open Go.RowKit Go.Proofs.Ythipjoioicmcnaa.G Go.Proofs.YthipjoioicmcnaaW.PrintWords Go.Proofs.YthipjoioicmcnaaW.PrintLast Go.Proofs.YthipjoioicmcnaaW.PrintMore
theorem bytesOf_ones (l : List Bool) : bytesOf (ones l) = l.map sgn := by
  unfold bytesOf ones sgn
  simp only [List.toList_toArray, List.map_map]
  refine List.map_congr_left fun b _ => ?_
  cases b <;> rfl
theorem dec_mono : ∀ (r l l' : List Bool), l'.length = l.length → (∀ i, l'.getD i false = true → l.getD i false = true) → dec r l' = true → dec r l = true := by
  intro r
  induction r with
  | nil => intro l l' _ h hd; exact h 0 hd
  | cons a r ih =>
    intro l l' hl h hd
    have hh : ∀ b, dec r (halfL l' b) = true → dec r (halfL l b) = true := by
      intro b
      refine ih _ _ ?_ ?_
      · unfold halfL
        rw [hl]
        cases b <;> simp [hl]
      · intro i
        unfold halfL
        rw [hl]
        cases b
        · simp only [Bool.false_eq_true, if_false, List.getD_eq_getElem?_getD, List.getElem?_take]
          by_cases c : i < l.length / 2
          · simp only [c, if_true]
            have := h i
            simp only [List.getD_eq_getElem?_getD] at this
            exact this
          · simp [c]
        · simp only [if_true, List.getD_eq_getElem?_getD, List.getElem?_drop]
          have := h (l.length / 2 + i)
          simp only [List.getD_eq_getElem?_getD] at this
          exact this
    simp only [dec] at hd ⊢
    cases a
    · simp only [Bool.false_eq_true, if_false, Bool.or_eq_true] at hd ⊢
      exact hd.imp (hh false) (hh true)
    · simp only [if_true, Bool.and_eq_true] at hd ⊢
      exact ⟨hh _ hd.1, hh _ hd.2⟩
theorem at_ok (b : List Int) (hb : b.length ≤ 1048576) (i : Nat) (hi : i < 100000) : ∃ x, laws_at.f b (i : Int) = some x := by
  unfold laws_at.f
  split
  · exact ⟨_, by rw [if_pos (by omega)]⟩
  · exact ⟨_, rfl⟩
def atV (b : List Int) (i : Nat) : Int := (laws_at.f b (i : Int)).getD 0
theorem at_v (b : List Int) (hb : b.length ≤ 1048576) (i : Nat) (hi : i < 100000) : laws_at.f b (i : Int) = some (atV b i) := by
  obtain ⟨x, e⟩ := at_ok b hb i hi
  unfold atV
  rw [e]
  rfl
def lessL (b : List Int) (l : List Bool) : List Bool := (List.range l.length).map fun i => l.getD i false && !(Int.tmod (atV b (i + 2)) 3 == 0)
theorem lessL_len (b : List Int) (l : List Bool) : (lessL b l).length = l.length := by simp [lessL]
theorem lessL_get (b : List Int) (l : List Bool) (i : Nat) (hi : i < l.length) : (lessL b l)[i]? = some (l.getD i false && !(Int.tmod (atV b (i + 2)) 3 == 0)) := by
  unfold lessL
  rw [List.getElem?_map, List.getElem?_range hi]
  rfl
theorem FnMore_pure : ∀ (l0 : List Int), (l0.length ≤ maxLen ∧ ∀ x_ ∈ l0, (Lit.int .u8 x_).wf = true) → ∃ k, laws_FnMore.f k l0 = some true := by
  intro b _
  refine ev_rounds ?_
  unfold laws_FnMore.f laws_big.f
  by_cases hb : (b.length : Int) > 1048576
  · simp only [Option.bind_some, if_pos (show (decide ((b.length : Int) > 1048576)) = true from decide_eq_true hb)]
    exact ev_some _
  simp only [Option.bind_some, if_neg (show ¬ (decide ((b.length : Int) > 1048576)) = true by rw [decide_eq_false hb]; decide)]
  obtain ⟨r, n, l, ed, hn, hr, hl⟩ := drawCase_ev b (by omega)
  have hp : 2 ^ n ≤ 2 ^ 6 := Nat.pow_le_pow_right (by decide) hn
  refine ev_bind ed ?_
  simp only [if_pos (show 0 + (ones l).size < 140737488355328 by rw [ones_size]; omega), bytesOf_ones, List.nil_append]
  have hrn : ((r.length : Int) == (n : Int)) = true := by simp; omega
  have hL := lessL_len b l
  have dt : ∀ l2 : List Bool, l2.length = l.length → Ev (fun k => impl_Decide.f k r (n : Int) (ones l2)) (b01 (dec r l2), true) := by
    intro l2 h2
    have e1 : decT r (n : Int) (ones l2) = (b01 (dec r l2), true) := by
      unfold decT
      rw [tok_ones (by omega) (h2.trans hl), hrn, flags_ones]
      rfl
    have := ev_ge _ (impl_Decide_eq r (n : Int) (ones l2) (by rw [ones_size]; omega))
    rwa [e1] at this
  have main : ∀ i, i ≤ l.length → Ev (fun k => laws_FnMore.l0 k b r (((lessL b l).take i ++ l.drop i).map sgn) (i : Int) (n : Int) (ones l) (n : Int) (ones l)) true := by
    refine ev_loop (fun k i => laws_FnMore.l0 k b r (((lessL b l).take i ++ l.drop i).map sgn) (i : Int) (n : Int) (ones l) (n : Int) (ones l)) l.length _ (fun i hi e => ?_) ?_
    · have hlen : (((lessL b l).take i ++ l.drop i).map sgn).length = l.length := by simp [hL]; omega
      have hat : laws_at.f b (wrap64 ((i : Int) + 2)) = some (atV b (i + 2)) := by
        rw [w64 (by omega) (by omega)]
        exact at_v b (by omega) (i + 2) (by omega)
      have hset : ∀ v, (lessL b l)[i]? = some v → (((lessL b l).take i ++ l.drop i).set i v) = (lessL b l).take (i + 1) ++ l.drop (i + 1) := fun v hv => set_front _ _ i v hL hi hv
      have hget := lessL_get b l i hi
      refine ev_succ ?_
      simp only [laws_FnMore.l0, hlen, if_pos (show (i : Int) < (l.length : Int) by omega), hat, Option.bind_some, if_pos (show 0 ≤ (i : Int) by omega), w64s i (show i < 4611686018427387904 by omega), Int.toNat_natCast]
      by_cases c : Int.tmod (atV b (i + 2)) 3 = 0
      · simp only [if_pos c]
        rw [show (Int.tmod (atV b (i + 2)) 3 == 0) = true from beq_iff_eq.2 c, Bool.not_true, Bool.and_false] at hget
        have h2 := hset false hget
        rw [show (((lessL b l).take i ++ l.drop i).map sgn).set i 48 = ((lessL b l).take (i + 1) ++ l.drop (i + 1)).map sgn by rw [← h2, List.map_set]; rfl]
        exact e
      · simp only [if_neg c]
        rw [show (Int.tmod (atV b (i + 2)) 3 == 0) = false from beq_eq_false_iff_ne.2 c, Bool.not_false, Bool.and_true] at hget
        have h3 : (lessL b l).take i ++ l.drop i = (lessL b l).take (i + 1) ++ l.drop (i + 1) := by
          rw [take_succ_getD _ i false (by omega), List.drop_eq_getElem_cons hi, List.append_assoc]
          congr 1
          rw [List.getD_eq_getElem?_getD, hget, Option.getD_some, getD_lt l i _ hi]
          rfl
        rw [h3]
        exact e
    · rw [List.take_of_length_le (by omega), List.drop_length, List.append_nil]
      refine ev_succ ?_
      simp only [laws_FnMore.l0, if_neg (show ¬ (l.length : Int) < (((lessL b l).map sgn).length : Int) by rw [List.length_map]; omega), strOfNums_ones]
      refine ev_bind (dt (lessL b l) hL) ?_
      refine ev_bind (dt l rfl) ?_
      simp only [if_true]
      have hle : ¬ (b01 (dec r (lessL b l)) > b01 (dec r l)) := by
        have hm := dec_mono r l (lessL b l) hL (fun i hi => by
          rcases Nat.lt_or_ge i l.length with h | h
          · rw [List.getD_eq_getElem?_getD, lessL_get b l i h, Option.getD_some, Bool.and_eq_true] at hi
            exact hi.1
          · rw [List.getD_eq_getElem?_getD, List.getElem?_eq_none (by omega)] at hi
            exact absurd hi (by decide))
        revert hm
        cases dec r (lessL b l) <;> cases dec r l <;> simp [b01]
      rw [decide_eq_false hle]
      refine ev_succ ?_
      simp only [laws_FnMore.j1, Bool.false_eq_true, if_false]
      have ec := ev_ge _ (impl_Choose_eq r (n : Int) (ones l) (by rw [ones_size]; omega))
      unfold choT at ec
      rw [tok_ones (by omega) hl, hrn, flags_ones] at ec
      by_cases h0 : n = 0
      · subst h0
        rw [if_neg (by decide)] at ec
        refine ev_bind ec ?_
        simp only [if_pos (show ((0 : Nat) : Int) = 0 from rfl), Bool.not_false]
        exact ev_some _
      obtain ⟨m, rfl⟩ : ∃ m, n = m + 1 := ⟨n - 1, by omega⟩
      match r, hr, hrn, dt, ec with
      | a :: r', hr, hrn, dt, ec =>
        rw [if_pos (show (true && true && (((m + 1 : Nat) : Int) != 0)) = true by simp; omega)] at ec
        refine ev_bind ec ?_
        simp only [if_neg (show ¬ ((m + 1 : Nat) : Int) = 0 by omega), List.drop_succ_cons, List.drop_zero]
        have hr' : r'.length = m := by simpa using hr
        have hf := halfL_len hl
        have half : ∀ h : Bool, Ev (fun k => impl_Half.f k ((m + 1 : Nat) : Int) (ones l) (b01 h)) ((m : Int), ones (halfL l h), true) := by
          intro h
          have := ev_ge _ (impl_Half_eq ((m + 1 : Nat) : Int) (ones l) (b01 h) (by rw [ones_size]; omega))
          unfold halfT at this
          rw [tok_ones (by omega) hl, flags_ones, if_pos (by cases h <;> simp [b01] <;> omega), show (((m + 1 : Nat) : Int) - 1) = (m : Int) by omega, show (b01 h == 1) = h by cases h <;> rfl] at this
          exact this
        have dh : ∀ h : Bool, Ev (fun k => impl_Decide.f k r' (m : Int) (ones (halfL l h))) (b01 (dec r' (halfL l h)), true) := by
          intro h
          have e1 : decT r' (m : Int) (ones (halfL l h)) = (b01 (dec r' (halfL l h)), true) := by
            unfold decT
            rw [tok_ones (by omega) (hf h), show ((r'.length : Int) == (m : Int)) = true from by simp; omega, flags_ones]
            rfl
          have hp12 := pow12 (n := m) (by omega)
          have := ev_ge _ (impl_Decide_eq r' (m : Int) (ones (halfL l h)) (by rw [ones_size, hf]; omega))
          rwa [e1] at this
        have own : ∀ h : Bool, Ev (fun k => impl_Owner.f k (a :: r') (b01 h)) ((a :: r').map fun z => z == (b01 h == 0)) := by
          intro h
          have := ev_ge _ (impl_Owner_eq (b01 h) (a :: r') (by rw [hr]; omega))
          unfold owner at this
          rwa [if_pos (by cases h <;> simp [b01])] at this
        have hone : (1 : Int) ≤ ((a :: r').length : Int) := by simp only [List.length_cons]; omega
        have hzero : (0 : Int) < ((a :: r').length : Int) := by simp only [List.length_cons]; omega
        refine ev_bind (half (dec r' (halfL l false) != dec (a :: r') l)) ?_
        simp only [if_pos hone]
        refine ev_bind (dh (dec r' (halfL l false) != dec (a :: r') l)) ?_
        simp only [if_pos hzero]
        -- the rest, for what was decided
        have rest : ∀ x18 : Bool, (x18 = true → ((b01 (dec r' (halfL l false) != dec (a :: r') l) == 0) == (b01 (dec r' (halfL l false)) == b01 (dec (a :: r') l))) = true) →
            Ev (fun k => laws_FnMore.j2 k (a :: r') (b01 (dec (a :: r') l)) (b01 (dec r' (halfL l false) != dec (a :: r') l)) true (b01 (dec r' (halfL l (dec r' (halfL l false) != dec (a :: r') l)))) x18 ((m + 1 : Nat) : Int) (ones l)) true := by
          intro x18 h18
          refine ev_succ ?_
          simp only [laws_FnMore.j2]
          refine ev_bind (half false) ?_
          simp only [if_pos hone, List.drop_succ_cons, List.drop_zero]
          refine ev_bind (dh false) ?_
          have hc : b01 (dec r' (halfL l (dec r' (halfL l false) != dec (a :: r') l))) = b01 (dec (a :: r') l) := by
            simp only [dec]
            cases a <;> cases h1 : dec r' (halfL l false) <;> cases h2 : dec r' (halfL l true) <;> simp [h1, h2]
          simp only [if_true, if_pos hc]
          have fin : Ev (fun k => (impl_Owner.f k (a :: r') (b01 (dec (a :: r') l))).bind fun t143 => if (t143.length : Int) = ((a :: r').length : Int) then ((impl_Owner.f k (a :: r') (b01 (dec (a :: r') l))).bind fun t146 => (if 0 < (t146.length : Int) then (if 0 < ((a :: r').length : Int) then (some ((rdOf false t146 0) == ((rdOf false (a :: r') 0) == (b01 (dec (a :: r') l) == 0)))) else (none)) else (none))) else (some false)) true := by
            refine ev_bind (own (dec (a :: r') l)) ?_
            simp only [List.length_map, if_true]
            refine ev_bind (own (dec (a :: r') l)) ?_
            simp only [List.length_map, if_pos hzero]
            have e0 : rdOf false ((a :: r').map fun z => z == (b01 (dec (a :: r') l) == 0)) 0 = (a == (b01 (dec (a :: r') l) == 0)) := rfl
            have e1 : rdOf false (a :: r') 0 = a := rfl
            rw [e0, e1, beq_self_eq_true]
            exact ev_some _
          cases x18
          · simp only [Bool.false_eq_true, if_false]
            exact fin
          · simp only [if_true, h18 rfl]
            exact fin
        have e1 : rdOf false (a :: r') 0 = a := rfl
        rw [e1]
        have key : ∀ x18 : Bool, (x18 = true → (a = true ∧ dec (a :: r') l = false) ∨ (a = false ∧ dec (a :: r') l = true)) → (x18 = true → ((b01 (dec r' (halfL l false) != dec (a :: r') l) == 0) == (b01 (dec r' (halfL l false)) == b01 (dec (a :: r') l))) = true) := by
          intro x18 _ _
          cases dec r' (halfL l false) <;> cases dec (a :: r') l <;> rfl
        cases a
        · simp only [Bool.false_eq_true, if_false]
          exact rest _ (fun _ => by cases dec r' (halfL l false) <;> cases dec (false :: r') l <;> rfl)
        · simp only [if_true]
          by_cases c : b01 (dec (true :: r') l) = 0
          · simp only [if_pos c]
            exact rest _ (fun _ => by cases dec r' (halfL l false) <;> cases dec (true :: r') l <;> rfl)
          · simp only [if_neg c]
            exact rest _ (fun _ => by cases dec r' (halfL l false) <;> cases dec (true :: r') l <;> rfl)
  exact main 0 (by omega)
end Go.Proofs.Ythipjoioicmcnaa.Pure
namespace Go.Proofs.Ythipjoioicmcnaa.Open
open Go.Deep Go.ChangeShapes Go.WideShapes Go.RowKit Go.Proofs.YthipjoioicmcnaaW.PrintWords
def Opens {α : Type} (P : Program) (t : TypeId) (d : Kd α) (ok : α → Prop) : Prop :=
  ∀ (H : Type) (enc : TypeId × Value → H) (w : World) (base : Nat) (spare : Nat → Bool) (held : Bool) (fuel : Nat) (cs : List Value) (x : DataW H × List MemPlace),
    DataW.trod enc P w base spare held fuel t cs = some x → ∃ a, d.K w a cs ∧ ok a
theorem opens_int {P : Program} {t : TypeId} {k : IntKind} (hu : P.underlying t = some (.int k)) : Opens P t (Kd.int k) (fun a => (Lit.int k a).wf = true) := by
  intro H enc w base spare held fuel cs x h
  obtain ⟨n, rfl, _, hw⟩ := DataW.trod_int hu h
  exact ⟨n, rfl, hw⟩
theorem list_of {α : Type} {p : Nat → α → Prop} : ∀ n, (∀ i, i < n → ∃ a, p i a) → ∃ l : List α, l.length = n ∧ ∀ i a, l[i]? = some a → p i a
  | 0, _ => ⟨[], rfl, fun i a h => by simp at h⟩
  | n + 1, h => by
    obtain ⟨l, hl, hp⟩ := list_of n (fun i hi => h i (by omega))
    obtain ⟨a, ha⟩ := h n (by omega)
    refine ⟨l ++ [a], by simp [hl], fun i b hb => ?_⟩
    rw [List.getElem?_append] at hb
    split at hb
    · exact hp i b hb
    · rename_i hi
      have e : i = n := by
        rcases Nat.lt_or_ge (i - l.length) 1 with h1 | h1
        · omega
        · rw [List.getElem?_eq_none (by simpa using h1)] at hb
          cases hb
      subst e
      rw [hl, Nat.sub_self] at hb
      cases hb
      exact ha
theorem opens_slice {α : Type} {P : Program} {t e : TypeId} {d : Kd α} {ok : α → Prop} (hu : P.underlying t = some (.slice e)) (hc : P.cellsOf e = d.sz) (h : Opens P e d ok) :
    Opens P t (Kd.slice e d) (fun l => l.length ≤ maxLen ∧ ∀ x ∈ l, ok x) := by
  intro H enc w base spare held fuel cs x hx
  rcases open_slice hu hx with ⟨rfl, rfl⟩ | ⟨a, len, cap, m, n, D, Pl, rfl, hb, hl, hm, hmm, rfl, hel⟩
  · exact ⟨[], ⟨none, 0, rfl, Nat.le_refl _, rfl, by simp, fun h => absurd h (by simp)⟩, by simp [maxLen], by simp⟩
  · have hle : len ≤ m := by rw [hmm]; split <;> omega
    have hone : ∀ i, i < len → ∃ y : α, (∃ cs', w.cells? base (a.add (i * P.cellsOf e)) (P.cellsOf e) = some cs' ∧ d.K w y cs') ∧ ok y := by
      intro i hi
      obtain ⟨cs', h1, h2⟩ := hel i (by omega)
      obtain ⟨y, hk, ho⟩ := h H enc w base spare held n cs' _ h2
      exact ⟨y, ⟨cs', h1, hk⟩, ho⟩
    obtain ⟨l, hll, hp⟩ := list_of len hone
    subst hll
    refine ⟨l, ⟨some a, cap, rfl, hl, rfl, by simp only [maxLen] at hm; omega, fun _ => ⟨a, rfl, fun j p hj => ?_⟩⟩, by omega, ?_⟩
    · obtain ⟨⟨cs', h1, hk⟩, _⟩ := hp j p hj
      refine ⟨cs', d.K_len hk, hk, fun i u hu => ?_⟩
      have hlt : i < cs'.length := by
        rcases Nat.lt_or_ge i cs'.length with h' | h'
        · exact h'
        · rw [List.getElem?_eq_none h'] at hu; cases hu
      have hlen := d.K_len hk
      obtain ⟨_, hlen2, hcell⟩ := World.cells?_some h1
      rw [hc] at hcell
      have := hcell i (by omega)
      rw [hu] at this
      rw [← Addr.add_add]
      exact this.symm ▸ rfl
    · intro x hx
      obtain ⟨i, hi, rfl⟩ := List.getElem_of_mem hx
      exact (hp i _ (List.getElem?_eq_getElem hi)).2
end Go.Proofs.Ythipjoioicmcnaa.Open
/- The statement FnMoreSaid of the law FnMore: for every input the call returns true and its arguments read as before. Conditions: none. (Written by a program of this session: wip/gen/row.py.) -/
namespace Go.Proofs.Ythipjoioicmcnaa.fnMore
open Go.ChangeShapes Go.WideShapes Go.ChangeAt Go.RowKit Go.Proofs.Ythipjoioicmcnaa.Open Go.Proofs.Ythipjoioicmcnaa.G Go.Proofs.YthipjoioicmcnaaW.PrintWords
open Go.ChangeMaps (open_string shut_string)
set_option linter.unusedVariables false
theorem own : ownKnob Try.prog.godebug = none := by kernel_rfl
theorem laidOut : laidOutB Try.prog = true := by kernel_rfl
set_option maxRecDepth 100000 in
theorem lifted (os : Os) (started : os.Started) (H : Type) (enc : TypeId × Value → H) :
    ReturnsInHanded {} Try.checked os 4 .any (Rows.fnMoreSpec.pre6 enc Try.prog Try.f4 Rows.fnMoreRow.domain false) (Rows.fnMoreSpec.post enc Try.prog Try.f4 false true false false) := by
  refine returnsInHanded_of_change (C := Try.checked) own started (by kernel_rfl) Try.func4
    (ChangeSpec.witness6 (enc := enc) (C := Try.checked) false ⟨#[], #[.slice none 0 0], []⟩ 8 (by kernel_rfl) (by kernel_rfl) (by kernel_rfl) (by kernel_rfl)) ?_
  intro W base args ds gs before hval0 hW hcnd _
  have hval : ∀ (j : Nat) t v, Try.f4.params[j]? = some t → args[j]? = some v → Value.okWide Try.prog W .any base t v := hval0
  have hW' := hW
  obtain ⟨p, q, hA0, hV, rfl, hfz, hnd⟩ := hW
  have hA : DataW.TrodAll enc Try.prog W 0 (fun _ => true) true Try.f4.params.toList args.toList ds p := hA0
  rw [Try.params4] at hA hval
  obtain ⟨v0, vs0, d0, ds0, p0, q0, hargs, rfl, rfl, h0, r0⟩ := trodAll_cons hA
  obtain ⟨rfl, rfl, rfl⟩ := trodAll_nil r0
  obtain rfl : args = #[v0] := by cases args; simp_all
  obtain ⟨rfl, rfl⟩ := trodVars_none hV
  have k0 := h0
  have lt0 : ∀ x ∈ p0, x.block < W.heap.size := by obtain ⟨m, hm⟩ := k0; exact DataW.trod_lt m _ _ _ hm
  obtain ⟨fu0, hf0⟩ := h0
  obtain ⟨a0, len0, cap0, rfl⟩ := okWide_slice Try.underlying22 (hval 0 22 v0 rfl rfl)
  obtain ⟨l0, hk0, ok0⟩ := (opens_slice (d := (Kd.int .u8)) Try.underlying22 (by kernel_rfl) (opens_int Try.underlying5)) _ enc W 0 _ true fu0 _ _ hf0
  obtain ⟨A0, c0, hcs0, hc0, hr0⟩ := hk0
  simp [Value.cells] at hcs0
  obtain ⟨rfl, rfl, rfl⟩ := hcs0
  clear hA0 hval0
  obtain ⟨k, hk⟩ := Pure.FnMore_pure l0 ok0
  refine (laws_FnMore.calls k _ _ l0 true W hr0 hc0 rfl hk).mono fun e W' ⟨he, bel0⟩ => ?_
  have bel : Below W.heap.size W W' := bel0
  subst he
  exact ⟨_, rfl, _, _, _, [], _, [], hW', trodAll_mk1 (shut_bool Try.underlying4 _), (trodAll_cons_mk (Below.trod laidOut (by kernel_rfl) (of_decide_eq_true (by kernel_rfl)) k0 bel lt0) trodAll_mk0), rfl, bel.frame _, fun h => by cases h⟩
theorem over : Rows.fnMoreRow.holds Try.pinned (OpenSpec.ofChange Rows.fnMoreSpec) :=
  OpenClaim.holds_of_wide 4 Try.f4 rfl rfl rfl rfl rfl rfl rfl ⟨rfl, rfl, rfl, rfl, rfl⟩ rfl rfl rfl rfl rfl (by kernel_rfl) Try.func4 (by kernel_rfl)
    (of_decide_eq_true (by kernel_rfl)) (by unfold Func.isWrapper; first | (rw [if_pos (by decide +kernel)]; kernel_rfl) | (rw [if_neg (by decide +kernel)]; exact ⟨rfl, rfl⟩))
    (fun os started H enc _ => lifted os started H enc)
theorem proved : Rows.FnMoreSaid := over
end Go.Proofs.Ythipjoioicmcnaa.fnMore
namespace Go.Proofs.Ythipjoioicmcnaa
/-- The given statement. -/
theorem fnMore_holds : Rows.FnMoreSaid := fnMore.proved
#print axioms fnMore_holds
end Go.Proofs.Ythipjoioicmcnaa
