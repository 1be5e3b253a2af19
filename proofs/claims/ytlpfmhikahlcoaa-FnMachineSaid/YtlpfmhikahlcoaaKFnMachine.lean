-- texts of this session, merged by a program of it (wip/gen/pack.py)
import Derived.Test.YtlpfmhikahlcoaaKFnMachine2
import Derived.Laws.BitsLemmas
import Derived.Test.YtlpfmhikahlcoaaKFnMachine7
import Derived.Test.YtlpfmhikahlcoaaKFnMachine3
import Derived.Test.YtlpfmhikahlcoaaKFnMachine8
import Derived.Test.YtlpfmhikahlcoaaKFnMachine4
import Derived.Test.YtlpfmhikahlcoaaKFnMachine5
import Derived.Test.YtlpfmhikahlcoaaKFnMachine9
import Derived.Test.YtlpfmhikahlcoaaKFnMachine6
import Derived.Test.YtlpfmhikahlcoaaKFnMachine10
import Derived.ProofKit
import Derived.WalkKit
import Derived.Deep.Slices
import Derived.OpenShut
import Derived.ChangeVars
import Derived.ChangeOld
import Derived.Below
import Derived.Test.YtlpfmhikahlcoaaKFnMachine1
import Derived.Test.YtlpfmhikahlcoaaRows
import Derived.ShutString
set_option linter.unusedSimpArgs false
set_option linter.unusedVariables false
namespace Go.Proofs.Ytlpfmhikahlcoaa.Pure
open Go.RowKit Go.Proofs.YtlpfmhikahlcoaaW.PrintWords Go.Proofs.YtlpfmhikahlcoaaW.PrintLast Go.Proofs.YtlpfmhikahlcoaaW.PrintMore
theorem rounds {R : Type} (L : Nat → Nat → Option R) (n : Nat) (r : R) (step : ∀ k i, i < n → L (k + 1) i = L k (i + 1)) (stop : ∀ k, L (k + 1) n = some r) : ∀ k, n < k → L k 0 = some r := by
  have h : ∀ d i k, i + d = n → d < k → L k i = some r := by
    intro d
    induction d with
    | zero =>
      intro i k hi hk
      obtain ⟨k, rfl⟩ : ∃ m, k = m + 1 := ⟨k - 1, by omega⟩
      obtain rfl : i = n := by omega
      exact stop k
    | succ d ih =>
      intro i k hi hk
      obtain ⟨k, rfl⟩ : ∃ m, k = m + 1 := ⟨k - 1, by omega⟩
      rw [step k i (by omega)]
      exact ih (i + 1) k (by omega) (by omega)
  exact fun k hk => h n 0 k (by omega) hk
theorem rounds_to {R : Type} (L : Nat → Nat → R) (n : Nat) (p : Nat → Bool) (S E : Nat → R) (step : ∀ k i, i < n → (∀ j, j < i → p j = true) → p i = true → L (k + 1) i = L k (i + 1))
    (exit : ∀ k i, i < n → (∀ j, j < i → p j = true) → p i = false → L (k + 1) i = E k) (stop : ∀ k, (∀ j, j < n → p j = true) → L (k + 1) n = S k) :
    ∀ k, n < k → ∃ j, k - n - 1 ≤ j ∧ j < k ∧ L k 0 = if (List.range n).all p then S j else E j := by
  have h : ∀ d i k, i + d = n → d < k → (∀ j, j < i → p j = true) → ∃ j, k - d - 1 ≤ j ∧ j < k ∧ L k i = if (List.range n).all p then S j else E j := by
    intro d
    induction d with
    | zero =>
      intro i k hi hk hp
      obtain ⟨k, rfl⟩ : ∃ m, k = m + 1 := ⟨k - 1, by omega⟩
      obtain rfl : i = n := by omega
      refine ⟨k, by omega, by omega, ?_⟩
      rw [stop k hp, if_pos (List.all_eq_true.2 fun x hx => hp x (by simpa using hx))]
    | succ d ih =>
      intro i k hi hk hp
      obtain ⟨k, rfl⟩ : ∃ m, k = m + 1 := ⟨k - 1, by omega⟩
      cases hpi : p i with
      | true =>
        obtain ⟨j, h1, h2, h3⟩ := ih (i + 1) k (by omega) (by omega) (fun j hj => by
          rcases Nat.eq_or_lt_of_le (Nat.lt_succ_iff.1 hj) with e | e
          · exact e ▸ hpi
          · exact hp j e)
        exact ⟨j, by omega, by omega, (step k i (by omega) hp hpi).trans h3⟩
      | false =>
        refine ⟨k, by omega, by omega, ?_⟩
        rw [exit k i (by omega) hp hpi, if_neg (fun ha => by have := List.all_eq_true.1 ha i (by simp; omega); rw [hpi] at this; cases this)]
  exact fun k hk => h n 0 k (by omega) hk (fun j hj => absurd hj (by omega))
theorem rounds_pre {R : Type} (L : Nat → Nat → Option R) (n : Nat) (p : Nat → Bool) (r bad : R) (step : ∀ k i, i < n → (∀ j, j < i → p j = true) → p i = true → L (k + 1) i = L k (i + 1))
    (exit : ∀ k i, i < n → (∀ j, j < i → p j = true) → p i = false → L (k + 1) i = some bad) (stop : ∀ k, (∀ j, j < n → p j = true) → L (k + 1) n = some r) :
    ∀ k, n < k → L k 0 = some (if (List.range n).all p then r else bad) := by
  intro k hk
  obtain ⟨j, _, _, h⟩ := rounds_to L n p (fun _ => some r) (fun _ => some bad) step exit stop k hk
  rw [h]
  split <;> rfl
theorem w64 {n : Int} (h0 : -9223372036854775808 ≤ n) (h1 : n ≤ 9223372036854775807) : wrap64 n = n := by
  unfold wrap64
  omega
theorem w64s (i : Nat) (h : i < 4611686018427387904) : wrap64 ((i : Int) + 1) = ((i + 1 : Nat) : Int) := by
  rw [w64 (by omega) (by omega)]
  omega
theorem u64_of {a : Int} (h0 : 0 ≤ a) (h1 : a ≤ 18446744073709551615) : IntKind.u64.wrap a = a := by
  have h : IntKind.u64.wrap a = a % 18446744073709551616 := by
    simp [IntKind.wrap, IntKind.bits, IntKind.signed]
  rw [h]
  omega
theorem rd_nat (xs : List Int) (i : Nat) : rd xs (i : Int) = xs.getD i 0 := by unfold rd; simp
theorem rdOf_nat {α : Type} (d : α) (xs : List α) (i : Nat) : rdOf d xs (i : Int) = xs.getD i d := by unfold rdOf; simp
theorem getD_lt {α : Type} (xs : List α) (i : Nat) (d : α) (h : i < xs.length) : xs.getD i d = xs[i] := by
  rw [List.getD_eq_getElem?_getD, List.getElem?_eq_getElem h]
  rfl
theorem take_succ_getD {α : Type} (xs : List α) (i : Nat) (d : α) (h : i < xs.length) : xs.take (i + 1) = xs.take i ++ [xs.getD i d] := by
  rw [List.take_succ_eq_append_getElem h, getD_lt xs i d h]
theorem set_front {α : Type} (p l : List α) (i : Nat) (v : α) (hl : p.length = l.length) (h : i < l.length) (hv : p[i]? = some v) : (p.take i ++ l.drop i).set i v = p.take (i + 1) ++ l.drop (i + 1) := by
  apply List.ext_getElem?
  intro j
  by_cases hj : j = i
  · subst hj
    rw [List.getElem?_set_self (by simp; omega), List.getElem?_append_left (by simp; omega), List.getElem?_take_of_lt (by omega), hv]
  · rw [List.getElem?_set_ne (by omega)]
    rcases Nat.lt_or_ge j i with h1 | h1
    · rw [List.getElem?_append_left (by simp; omega), List.getElem?_append_left (by simp; omega), List.getElem?_take_of_lt (by omega), List.getElem?_take_of_lt (by omega)]
    · rw [List.getElem?_append_right (by simp; omega), List.getElem?_append_right (by simp; omega)]
      simp only [List.length_take, List.getElem?_drop]
      congr 1
      omega
theorem bt_nat (s : ByteArray) (i : Nat) (h : i < s.size) : bt s (i : Int) = (s[i].toNat : Int) := by
  unfold bt
  simp [h]
theorem toList_data (s : ByteArray) : s.toList = s.data.toList := ByteArray.toList_eq s
end Go.Proofs.Ytlpfmhikahlcoaa.Pure
set_option linter.unusedSimpArgs false
set_option linter.unusedVariables false
namespace Go.Proofs.Ytlpfmhikahlcoaa.Pure
open Go.RowKit Go.Proofs.YtlpfmhikahlcoaaW.PrintWords Go.Proofs.YtlpfmhikahlcoaaW.PrintLast Go.Proofs.YtlpfmhikahlcoaaW.PrintMore
theorem ev_some {α : Type} (r : α) : Ev (fun _ => some r) r := ⟨0, fun _ _ => rfl⟩
theorem ev_ge {α : Type} {g : Nat → Option α} {r : α} (n : Nat) (h : ∀ k, n < k → g k = some r) : Ev g r := ⟨n + 1, fun k hk => h k (by omega)⟩
theorem ev_step {α : Type} {g f : Nat → Option α} {r : α} (h : ∀ k, g (k + 1) = f k) (e : Ev f r) : Ev g r := by
  obtain ⟨K, e⟩ := e
  refine ⟨K + 1, fun k hk => ?_⟩
  obtain ⟨m, rfl⟩ : ∃ m, k = m + 1 := ⟨k - 1, by omega⟩
  rw [h m]
  exact e m (by omega)
theorem ev_succ {α : Type} {g : Nat → Option α} {r : α} (e : Ev (fun k => g (k + 1)) r) : Ev g r := ev_step (fun _ => rfl) e
theorem ev_eq {α : Type} {g f : Nat → Option α} {r : α} (h : ∀ k, g k = f k) (e : Ev f r) : Ev g r := by
  obtain ⟨K, e⟩ := e
  exact ⟨K, fun k hk => (h k).trans (e k hk)⟩
theorem ev_bind {α β : Type} {g : Nat → Option α} {f : Nat → α → Option β} {a : α} {r : β} (h : Ev g a) (e : Ev (fun n => f n a) r) : Ev (fun n => (g n).bind (f n)) r := by
  obtain ⟨K, h⟩ := h
  obtain ⟨M, e⟩ := e
  refine ⟨K + M, fun n hn => ?_⟩
  show (g n).bind (f n) = some r
  rw [h n (by omega)]
  exact e n (by omega)
theorem ev_rounds {α : Type} {g : Nat → Option α} {r : α} (h : Ev g r) : ∃ k, g k = some r := by
  obtain ⟨K, h⟩ := h
  exact ⟨K, h K (Nat.le_refl _)⟩
theorem ev_loop {α : Type} (L : Nat → Nat → Option α) (n : Nat) (r : α) (step : ∀ i, i < n → Ev (fun k => L k (i + 1)) r → Ev (fun k => L k i) r) (stop : Ev (fun k => L k n) r) : ∀ i, i ≤ n → Ev (fun k => L k i) r := by
  have h : ∀ d i, i + d = n → Ev (fun k => L k i) r := by
    intro d
    induction d with
    | zero =>
      intro i hi
      obtain rfl : i = n := by omega
      exact stop
    | succ d ih => intro i hi; exact step i (by omega) (ih (i + 1) (by omega))
  exact fun i hi => h (n - i) i (by omega)
end Go.Proofs.Ytlpfmhikahlcoaa.Pure
set_option linter.unusedSimpArgs false
set_option linter.unusedVariables false
namespace Go.Proofs.Ytlpfmhikahlcoaa.Pure
open Go.RowKit Go.Proofs.Ytlpfmhikahlcoaa.G Go.Proofs.YtlpfmhikahlcoaaW.PrintWords Go.Proofs.YtlpfmhikahlcoaaW.PrintLast Go.Proofs.YtlpfmhikahlcoaaW.PrintMore
theorem rounds_all {R : Type} (L : Nat → Nat → Option R) (n : Nat) (p : Nat → Bool) (r bad : R) (step : ∀ k i, i < n → p i = true → L (k + 1) i = L k (i + 1)) (exit : ∀ k i, i < n → p i = false → L (k + 1) i = some bad)
    (stop : ∀ k, L (k + 1) n = some r) : ∀ k, n < k → L k 0 = some (if (List.range n).all p then r else bad) :=
  rounds_pre L n p r bad (fun k i hi _ hp => step k i hi hp) (fun k i hi _ hp => exit k i hi hp) (fun k _ => stop k)
def sgn (b : Bool) : Int := if b then 49 else 48
def ones (l : List Bool) : ByteArray := ⟨(l.map fun b => if b then (49 : UInt8) else 48).toArray⟩
theorem ones_size (l : List Bool) : (ones l).size = l.length := by
  show (l.map fun b => if b then (49 : UInt8) else 48).toArray.size = _
  simp
theorem bt_ones (l : List Bool) (i : Nat) (h : i < l.length) : bt (ones l) (i : Int) = sgn (l.getD i false) := by
  have hs : i < (ones l).size := by rw [ones_size]; exact h
  rw [bt_nat _ i hs, getD_lt l i false h]
  have e : (ones l)[i] = if l[i] then (49 : UInt8) else 48 := by
    have h1 : (ones l).data.toList[i]? = some (ones l)[i] := by
      rw [List.getElem?_eq_getElem (by simpa using hs)]
      rfl
    have h2 : (ones l).data.toList[i]? = some (if l[i] then (49 : UInt8) else 48) := by simp [ones, h]
    exact Option.some.inj (h1.symm.trans h2)
  rw [e]
  unfold sgn
  cases l[i] <;> rfl
theorem ones_inj {a b : List Bool} (h : ones a = ones b) : a = b := by
  unfold ones at h
  injection h with h
  have h2 : (a.map fun b => if b then (49 : UInt8) else 48) = b.map fun b => if b then (49 : UInt8) else 48 := by simpa using congrArg Array.toList h
  exact List.map_inj_right (fun x y hxy => by revert hxy; cases x <;> cases y <;> decide) |>.1 h2
theorem data_inj {a b : ByteArray} (h : a.data.toList = b.data.toList) : a = b := by
  cases a; cases b
  simp only [ByteArray.mk.injEq]
  exact Array.toList_inj.1 h
theorem toList_inj {a b : ByteArray} : a.toList = b.toList ↔ a = b := by
  rw [toList_data, toList_data]
  exact ⟨data_inj, fun h => h ▸ rfl⟩
theorem strOfNums_ones (l : List Bool) : strOfNums (l.map sgn) = ones l := by
  unfold strOfNums ones
  congr 2
  rw [List.map_map]
  refine List.map_congr_left fun b _ => ?_
  cases b <;> rfl
def tok (N : Int) (s : ByteArray) : Bool := decide (0 ≤ N ∧ N ≤ 12 ∧ (s.size : Int) = 2 ^ N.toNat) && (List.range s.size).all fun (i : Nat) => bt s (i : Int) == 48 || bt s (i : Int) == 49
theorem tok_form {N : Int} {s : ByteArray} (h : tok N s = true) : ∃ (n : Nat) (l : List Bool), N = (n : Int) ∧ n ≤ 12 ∧ l.length = 2 ^ n ∧ s = ones l := by
  unfold tok at h
  simp only [Bool.and_eq_true, decide_eq_true_eq] at h
  obtain ⟨⟨h0, h1, h2⟩, h3⟩ := h
  obtain ⟨n, rfl⟩ := Int.eq_ofNat_of_zero_le h0
  have h2' : s.size = 2 ^ n := by
    rw [Int.toNat_natCast] at h2
    exact_mod_cast h2
  refine ⟨n, (List.range s.size).map fun (i : Nat) => decide (bt s (i : Int) = 49), rfl, by omega, by simp [h2'], ?_⟩
  apply data_inj
  apply List.ext_getElem?
  intro i
  rcases Nat.lt_or_ge i s.size with hi | hi
  · have hb := List.all_eq_true.1 h3 i (by simpa using hi)
    have e : s.data.toList[i]? = some s[i] := by
      rw [List.getElem?_eq_getElem (by simpa using hi)]
      rfl
    rw [e]
    have hv := bt_nat s i hi
    simp only [ones, List.map_map, List.getElem?_map, List.getElem?_range hi, Option.map_some, Function.comp]
    congr 1
    simp only [Bool.or_eq_true, beq_iff_eq] at hb
    have hd : ∀ c : UInt8, ((c.toNat : Int) = 48 → c = 48) ∧ ((c.toNat : Int) = 49 → c = 49) := fun c => ⟨fun h => UInt8.toNat_inj.1 (by have : c.toNat = 48 := by omega
                                                                                                                                         rw [this]; rfl), fun h => UInt8.toNat_inj.1 (by have : c.toNat = 49 := by omega
                                                                                                                                                                                         rw [this]; rfl)⟩
    rcases hb with hb | hb
    · have hc := (hd s[i]).1 (hv ▸ hb)
      simp [hb, hc]
    · have hc := (hd s[i]).2 (hv ▸ hb)
      simp [hb, hc]
  · rw [List.getElem?_eq_none (by simpa using hi), List.getElem?_eq_none (by simp [ones]; exact hi)]
theorem tok_ones {n : Nat} {l : List Bool} (hn : n ≤ 12) (hl : l.length = 2 ^ n) : tok (n : Int) (ones l) = true := by
  unfold tok
  rw [Bool.and_eq_true]
  refine ⟨decide_eq_true ⟨by omega, by omega, ?_⟩, List.all_eq_true.2 fun i hi => ?_⟩
  · rw [ones_size, hl, Int.toNat_natCast]
    norm_cast
  · have hi' : i < l.length := by rw [ones_size] at hi; simpa using hi
    rw [bt_ones l i hi']
    unfold sgn
    cases l.getD i false <;> rfl
theorem pow12 {n : Nat} (hn : n ≤ 12) : 2 ^ n ≤ 4096 := Nat.pow_le_pow_right (by decide) hn
theorem pow62 {n : Nat} (hn : n ≤ 61) : (2 : Int) ^ n ≤ 2305843009213693952 := by
  have h : 2 ^ n ≤ 2 ^ 61 := Nat.pow_le_pow_right (by decide) hn
  have h2 : ((2 ^ n : Nat) : Int) ≤ ((2 ^ 61 : Nat) : Int) := by exact_mod_cast h
  have h3 : ((2 ^ n : Nat) : Int) = (2 : Int) ^ n := by norm_cast
  omega
theorem pow_pos_ (n : Nat) : (1 : Int) ≤ 2 ^ n := by
  have h : 1 ≤ 2 ^ n := Nat.one_le_two_pow
  have h2 : ((1 : Nat) : Int) ≤ ((2 ^ n : Nat) : Int) := by exact_mod_cast h
  have h3 : ((2 ^ n : Nat) : Int) = (2 : Int) ^ n := by norm_cast
  omega
theorem pow2_eq (n : Nat) (hn : n ≤ 60) : ∀ k, n < k → spec_l01Pow2.f k (n : Int) = some ((2 : Int) ^ n) := by
  intro k hk
  unfold spec_l01Pow2.f
  refine rounds (fun k i => spec_l01Pow2.l0 k (n : Int) ((2 : Int) ^ i) (i : Int)) n _ ?_ ?_ k hk
  · intro k i hi
    simp only [spec_l01Pow2.l0]
    have h1 := pow62 (n := i + 1) (by omega)
    have h2 := pow_pos_ i
    rw [if_pos (by omega), w64s i (by omega), show (2 : Int) * 2 ^ i = 2 ^ (i + 1) from by rw [Int.pow_succ]; omega, w64 (by have := pow_pos_ (i + 1); omega) (by omega)]
  · intro k
    simp only [spec_l01Pow2.l0]
    rw [if_neg (by omega)]
theorem spec_TableOk_eq (N : Int) (s : ByteArray) (hs : s.size ≤ 1099511627776) : ∀ k, s.size + 20 < k → spec_TableOk.f k N s = some (tok N s) := by
  intro k hk
  obtain ⟨k, rfl⟩ : ∃ m, k = m + 1 := ⟨k - 1, by omega⟩
  unfold spec_TableOk.f spec_l01In.f
  by_cases h0 : N ≥ 0
  · rw [if_pos h0]
    by_cases h1 : N ≤ 12
    · obtain ⟨n, rfl⟩ := Int.eq_ofNat_of_zero_le h0
      simp only [h1, decide_true, Option.bind_some, if_true]
      rw [pow2_eq n (by omega) (k + 1) (by omega)]
      simp only [Option.bind_some, spec_TableOk.j0]
      by_cases h2 : (s.size : Int) = 2 ^ n
      · rw [if_neg (by simp [h2])]
        have h := rounds_all (fun k i => spec_TableOk.l0 k (i : Int) (n : Int) s) s.size (fun i => bt s i == 48 || bt s i == 49) true false ?_ ?_ ?_ k (by omega)
        · refine h.trans ?_
          unfold tok
          rw [decide_eq_true (⟨h0, h1, by rw [Int.toNat_natCast]; exact h2⟩ : 0 ≤ (n : Int) ∧ (n : Int) ≤ 12 ∧ (s.size : Int) = 2 ^ (n : Int).toNat), Bool.true_and]
          congr 1
          split <;> simp_all
        · intro k i hi hp
          simp only [spec_TableOk.l0]
          simp only [Bool.or_eq_true, beq_iff_eq] at hp
          rw [if_pos (by omega), if_pos (by omega), w64s i (by omega)]
          rcases hp with hp | hp
          · rw [if_pos hp]
          · rw [if_neg (by omega), if_pos hp]
        · intro k i hi hp
          simp only [spec_TableOk.l0]
          simp only [Bool.or_eq_false_iff, beq_eq_false_iff_ne] at hp
          rw [if_pos (by omega), if_pos (by omega), if_neg hp.1, if_neg hp.2]
        · intro k
          simp only [spec_TableOk.l0]
          rw [if_neg (by omega)]
      · rw [if_pos (by simpa using h2)]
        unfold tok
        rw [decide_eq_false (by rintro ⟨_, _, h⟩; rw [Int.toNat_natCast] at h; exact h2 h), Bool.false_and]
    · simp only [h1, decide_false, Option.bind_some]
      simp only [Bool.false_eq_true, if_false, spec_TableOk.j0, if_true]
      unfold tok
      rw [decide_eq_false (by omega), Bool.false_and]
  · rw [if_neg h0]
    simp only [Option.bind_some, Bool.false_eq_true, if_false, spec_TableOk.j0, if_true]
    unfold tok
    rw [decide_eq_false (by omega), Bool.false_and]
theorem shl_eq (n : Nat) (hn : n ≤ 60) : shl .i64 1 (n : Int) = (2 : Int) ^ n := by
  unfold shl
  rw [Int.toNat_natCast, show min n IntKind.i64.bits = n from by simp [IntKind.bits]; omega, Int.one_mul, IntKind.wrap_i64]
  have h1 := pow62 (n := n) (by omega)
  have h2 := pow_pos_ n
  omega
theorem impl_TableOk_eq (N : Int) (s : ByteArray) (hs : s.size ≤ 1099511627776) : ∀ k, s.size + 20 < k → impl_TableOk.f k N s = some (tok N s) := by
  intro k hk
  obtain ⟨k, rfl⟩ : ∃ m, k = m + 1 := ⟨k - 1, by omega⟩
  unfold impl_TableOk.f impl_within.f
  by_cases h0 : N ≥ 0
  · rw [if_pos h0]
    by_cases h1 : N ≤ 12
    · obtain ⟨n, rfl⟩ := Int.eq_ofNat_of_zero_le h0
      simp only [h1, decide_true, Option.bind_some, if_true]
      rw [u64_of (by omega) (by omega), if_pos (by omega), shl_eq n (by omega)]
      simp only [impl_TableOk.j0]
      by_cases h2 : (s.size : Int) = 2 ^ n
      · rw [if_neg (by simp [h2])]
        have h := rounds_all (fun k i => impl_TableOk.l0 k (s.size : Int) (i : Int) (n : Int) s) s.size (fun i => bt s i == 48 || bt s i == 49) true false ?_ ?_ ?_ k (by omega)
        · refine h.trans ?_
          unfold tok
          rw [decide_eq_true (⟨h0, h1, by rw [Int.toNat_natCast]; exact h2⟩ : 0 ≤ (n : Int) ∧ (n : Int) ≤ 12 ∧ (s.size : Int) = 2 ^ (n : Int).toNat), Bool.true_and]
          congr 1
          split <;> simp_all
        · intro k i hi hp
          simp only [impl_TableOk.l0]
          simp only [Bool.or_eq_true, beq_iff_eq] at hp
          rw [if_pos (by omega), if_pos (by omega), if_pos (by omega), w64s i (by omega)]
          rcases hp with hp | hp
          · rw [if_pos hp]
          · rw [if_neg (by omega), if_pos hp]
        · intro k i hi hp
          simp only [impl_TableOk.l0]
          simp only [Bool.or_eq_false_iff, beq_eq_false_iff_ne] at hp
          rw [if_pos (by omega), if_pos (by omega), if_pos (by omega), if_neg hp.1, if_neg hp.2]
        · intro k
          simp only [impl_TableOk.l0]
          rw [if_neg (by omega)]
      · rw [if_pos (by simpa using h2)]
        unfold tok
        rw [decide_eq_false (by rintro ⟨_, _, h⟩; rw [Int.toNat_natCast] at h; exact h2 h), Bool.false_and]
    · simp only [h1, decide_false, Option.bind_some]
      simp only [Bool.false_eq_true, if_false, impl_TableOk.j0, if_true]
      unfold tok
      rw [decide_eq_false (by omega), Bool.false_and]
  · rw [if_neg h0]
    simp only [Option.bind_some, Bool.false_eq_true, if_false, impl_TableOk.j0, if_true]
    unfold tok
    rw [decide_eq_false (by omega), Bool.false_and]
end Go.Proofs.Ytlpfmhikahlcoaa.Pure
set_option linter.unusedSimpArgs false
set_option linter.unusedVariables false
namespace Go.Proofs.Ytlpfmhikahlcoaa.Pure
open Go.RowKit Go.Proofs.Ytlpfmhikahlcoaa.G Go.Proofs.YtlpfmhikahlcoaaW.PrintWords Go.Proofs.YtlpfmhikahlcoaaW.PrintLast Go.Proofs.YtlpfmhikahlcoaaW.PrintMore
def plc (l : List Int) : Int := l.foldl (fun a b => 2 * a + b) 0
def isBit (b : Int) : Bool := b == 0 || b == 1
theorem plc_snoc (l : List Int) (b : Int) : plc (l ++ [b]) = 2 * plc l + b := by simp [plc, List.foldl_append]
theorem plc_bd (l : List Int) (i : Nat) (hi : i ≤ l.length) (h : ∀ j, j < i → isBit (l.getD j 0) = true) : 0 ≤ plc (l.take i) ∧ plc (l.take i) < 2 ^ i := by
  induction i with
  | zero => simp [plc]
  | succ i ih =>
    obtain ⟨h0, h1⟩ := ih (by omega) (fun j hj => h j (by omega))
    have hb := h i (by omega)
    simp only [isBit, Bool.or_eq_true, beq_iff_eq] at hb
    rw [take_succ_getD l i 0 (by omega), plc_snoc, Int.pow_succ]
    omega
theorem all_getD (l : List Int) (p : Int → Bool) : (List.range l.length).all (fun i => p (l.getD i 0)) = l.all p := by
  rw [Bool.eq_iff_iff, List.all_eq_true, List.all_eq_true]
  constructor
  · intro h x hx
    obtain ⟨i, hi, rfl⟩ := List.getElem_of_mem hx
    have := h i (by simpa using hi)
    rwa [getD_lt l i 0 hi] at this
  · intro h i hi
    have hi' : i < l.length := by simpa using hi
    rw [getD_lt l i 0 hi']
    exact h _ (List.getElem_mem hi')
theorem placeOfBits_eq (l : List Int) (hl : l.length ≤ 60) : ∀ k, l.length < k → impl_placeOfBits.f k l = some (if l.all isBit then (plc l, true) else (0, false)) := by
  intro k hk
  unfold impl_placeOfBits.f
  rw [← all_getD l isBit]
  have h := rounds_pre (fun k i => impl_placeOfBits.l0 k (plc (l.take i)) l (l.length : Int) (i : Int)) l.length (fun i => isBit (l.getD i 0)) (plc l, true) (0, false) ?_ ?_ ?_ k hk
  · simpa [plc] using h
  · intro k i hi hp hb
    simp only [isBit, Bool.or_eq_true, beq_iff_eq] at hb
    obtain ⟨h0, h1⟩ := plc_bd l i (by omega) hp
    have hw := pow62 (n := i) (by omega)
    simp only [impl_placeOfBits.l0]
    rw [if_pos (by omega), if_pos (by omega), if_pos (by omega), rd_nat, w64s i (by omega), take_succ_getD l i 0 hi, plc_snoc, w64 (n := 2 * plc (l.take i)) (by omega) (by omega), w64 (by omega) (by omega)]
    rcases hb with hb | hb
    · rw [if_pos hb]
    · rw [if_neg (by omega), if_pos hb]
  · intro k i hi hp hb
    simp only [isBit, Bool.or_eq_false_iff, beq_eq_false_iff_ne] at hb
    simp only [impl_placeOfBits.l0]
    rw [if_pos (by omega), if_pos (by omega), if_pos (by omega), rd_nat, if_neg hb.1, if_neg hb.2]
  · intro k hp
    simp only [impl_placeOfBits.l0]
    rw [if_neg (by omega), List.take_length]
theorem placeOfBits_any (l : List Int) (hl : l.length ≤ 1099511627776) : ∃ x, ∀ k, l.length < k → impl_placeOfBits.f k l = some (if l.all isBit then (x, true) else (0, false)) := by
  refine ⟨l.foldl (fun a b => wrap64 (wrap64 (2 * a) + b)) 0, fun k hk => ?_⟩
  unfold impl_placeOfBits.f
  rw [← all_getD l isBit]
  have h := rounds_pre (fun k i => impl_placeOfBits.l0 k ((l.take i).foldl (fun a b => wrap64 (wrap64 (2 * a) + b)) 0) l (l.length : Int) (i : Int)) l.length (fun i => isBit (l.getD i 0)) (l.foldl (fun a b => wrap64 (wrap64 (2 * a) + b)) 0, true) (0, false) ?_ ?_ ?_ k hk
  · simpa using h
  · intro k i hi hp hb
    simp only [isBit, Bool.or_eq_true, beq_iff_eq] at hb
    simp only [impl_placeOfBits.l0]
    rw [if_pos (by omega), if_pos (by omega), if_pos (by omega), rd_nat, w64s i (by omega), take_succ_getD l i 0 hi, List.foldl_append]
    rcases hb with hb | hb
    · rw [if_pos hb]; rfl
    · rw [if_neg (by omega), if_pos hb]; rfl
  · intro k i hi hp hb
    simp only [isBit, Bool.or_eq_false_iff, beq_eq_false_iff_ne] at hb
    simp only [impl_placeOfBits.l0]
    rw [if_pos (by omega), if_pos (by omega), if_pos (by omega), rd_nat, if_neg hb.1, if_neg hb.2]
  · intro k hp
    simp only [impl_placeOfBits.l0]
    rw [if_neg (by omega), List.take_length]
end Go.Proofs.Ytlpfmhikahlcoaa.Pure
set_option linter.unusedSimpArgs false
set_option linter.unusedVariables false
namespace Go.Proofs.Ytlpfmhikahlcoaa.Pure
open Go.RowKit Go.Proofs.Ytlpfmhikahlcoaa.G Go.Proofs.YtlpfmhikahlcoaaW.PrintWords Go.Proofs.YtlpfmhikahlcoaaW.PrintLast Go.Proofs.YtlpfmhikahlcoaaW.PrintMore
theorem rdS_nat (L : List S86) (i : Nat) : rd_T86 L (i : Int) = L.getD i z86 := by unfold rd_T86; simp
def mOkB (r : List Bool) (N : Int) (s : ByteArray) (rm : Int) (v : List Int) (rt : Int) (o : Bool) (a b c : Int) (m : List S86) : Bool :=
  (tok N s && ((r.length : Int) == N)) && okFront rm m.length v.length N && v.all isBit && okRet rt o v.length && decide (okMemo m) && okCounts a b c
theorem impl_MachineOk_ev (r : List Bool) (N : Int) (s : ByteArray) (rm : Int) (v : List Int) (rt : Int) (o : Bool) (a b c : Int) (m : List S86) (hs : s.size ≤ 1099511627776) (hv : v.length ≤ 1099511627776) (hm : ∀ y ∈ m, y.f0.size ≤ maxLen) :
    Ev (fun k => impl_MachineOk.f k r N s rm v rt o a b c m) (mOkB r N s rm v rt o a b c m) := by
  obtain ⟨x, hx⟩ := placeOfBits_any v hv
  refine ev_ge (s.size + v.length + 20) fun k hk => ?_
  unfold impl_MachineOk.f impl_rowed.f mOkB
  rw [if_pos hm, impl_TableOk_eq N s hs k (by omega), Option.bind_some, hx k (by omega)]
  cases tok N s <;> cases ((r.length : Int) == N) <;> cases v.all isBit <;> simp
theorem mem_take_key (L : List S86) (i : Nat) (hi : i ≤ L.length) (x : ByteArray) : x ∈ ((L.take i).map fun s => s.f0) ↔ ∃ j, j < i ∧ (rd_T86 L (j : Int)).f0 = x := by
  rw [List.mem_map]
  constructor
  · rintro ⟨y, hy, rfl⟩
    rw [List.mem_iff_getElem] at hy
    obtain ⟨j, hj, rfl⟩ := hy
    have hj' : j < i := by simp at hj; omega
    exact ⟨j, hj', by rw [rdS_nat, getD_lt L j _ (by omega)]; simp⟩
  · rintro ⟨j, hj, rfl⟩
    exact ⟨rd_T86 L (j : Int), List.mem_iff_getElem.2 ⟨j, by simp; omega, by rw [rdS_nat, getD_lt L j _ (by omega)]; simp⟩, rfl⟩
section
variable (r : List Bool) (N : Int) (s : ByteArray) (rm : Int) (v : List Int) (rt : Int) (o : Bool) (a b c : Int) (m : List S86)
end
end Go.Proofs.Ytlpfmhikahlcoaa.Pure
set_option linter.unusedSimpArgs false
set_option linter.unusedVariables false
namespace Go.Proofs.Ytlpfmhikahlcoaa.Pure
open Go.RowKit Go.Proofs.Ytlpfmhikahlcoaa.G Go.Proofs.YtlpfmhikahlcoaaW.PrintWords Go.Proofs.YtlpfmhikahlcoaaW.PrintLast Go.Proofs.YtlpfmhikahlcoaaW.PrintMore
def flags (s : ByteArray) : List Bool := s.data.toList.map fun c => c == 49
theorem flags_ones (l : List Bool) : flags (ones l) = l := by
  unfold flags
  simp only [ones, List.map_map]
  exact (List.map_congr_left (fun b _ => by cases b <;> rfl)).trans (List.map_id l)
end Go.Proofs.Ytlpfmhikahlcoaa.Pure
set_option linter.unusedSimpArgs false
set_option linter.unusedVariables false
namespace Go.Proofs.Ytlpfmhikahlcoaa.Pure
open Go.RowKit Go.Proofs.Ytlpfmhikahlcoaa.G Go.Proofs.YtlpfmhikahlcoaaW.PrintWords Go.Proofs.YtlpfmhikahlcoaaW.PrintLast Go.Proofs.YtlpfmhikahlcoaaW.PrintMore
theorem ones_data (l : List Bool) : (ones l).data.toList = l.map fun b => if b then (49 : UInt8) else 48 := by simp [ones]
theorem contains1 (l : List Bool) : (ones l).data.toList.contains 49 = l.contains true := by
  rw [ones_data]
  induction l with
  | nil => rfl
  | cons b l ih =>
    rw [List.map_cons, List.contains_cons, List.contains_cons, ih]
    congr 1
    cases b <;> rfl
theorem contains0 (l : List Bool) : (ones l).data.toList.contains 48 = l.contains false := by
  rw [ones_data]
  induction l with
  | nil => rfl
  | cons b l ih =>
    rw [List.map_cons, List.contains_cons, List.contains_cons, ih]
    congr 1
    cases b <;> rfl
theorem impl_Table_known_eq (N : Int) (l : List Bool) : impl_Table_known.f N (ones l) = some (if l.contains true then (if l.contains false then -1 else 1) else 0) := by
  unfold impl_Table_known.f
  rw [show strings_Contains.f (ones l) ⟨#[49]⟩ = some ((ones l).data.toList.contains 49) from rfl, show strings_Contains.f (ones l) ⟨#[48]⟩ = some ((ones l).data.toList.contains 48) from rfl, contains1, contains0]
  have hb : ∀ b, impl_bit.f b = some (if b then 1 else 0) := fun b => by cases b <;> rfl
  simp only [Option.bind_some, hb]
  cases l.contains true <;> cases l.contains false <;> rfl
end Go.Proofs.Ytlpfmhikahlcoaa.Pure
set_option linter.unusedSimpArgs false
set_option linter.unusedVariables false
namespace Go.Proofs.Ytlpfmhikahlcoaa.Pure
open Go.RowKit Go.Proofs.Ytlpfmhikahlcoaa.G Go.Proofs.YtlpfmhikahlcoaaW.PrintWords Go.Proofs.YtlpfmhikahlcoaaW.PrintLast Go.Proofs.YtlpfmhikahlcoaaW.PrintMore
theorem ones_extract (l : List Bool) (a b : Nat) : (ones l).extract a b = ones ((l.take b).drop a) := by
  apply data_inj
  rw [ByteArray.data_extract]
  simp only [ones, Array.toList_extract, List.extract_eq_take_drop, List.map_drop, List.map_take]
  rw [List.drop_take]
def halfL (l : List Bool) (h : Bool) : List Bool := if h then l.drop (l.length / 2) else l.take (l.length / 2)
theorem halfL_len {n : Nat} {l : List Bool} (hl : l.length = 2 ^ (n + 1)) (h : Bool) : (halfL l h).length = 2 ^ n := by
  rw [Nat.pow_succ] at hl
  cases h <;> simp [halfL] <;> omega
def halfT (N : Int) (s : ByteArray) (h : Int) : Int × ByteArray × Bool := if tok N s && (N != 0) && (h == 0 || h == 1) then (N - 1, ones (halfL (flags s) (h == 1)), true) else (0, ⟨#[]⟩, false)
theorem spec_Half_eq (N : Int) (s : ByteArray) (h : Int) (hs : s.size ≤ 1099511627776) : ∀ k, s.size + 20 < k → spec_Half.f k N s h = some (halfT N s h) := by
  intro k hk
  unfold spec_Half.f halfT
  rw [spec_TableOk_eq N s hs k hk, Option.bind_some]
  cases ht : tok N s with
  | false => rfl
  | true =>
    obtain ⟨n, l, rfl, hn, hl, rfl⟩ := tok_form ht
    have hp := pow12 hn
    rw [if_pos rfl]
    by_cases h0 : (n : Int) = 0
    · rw [if_pos h0, h0]
      rfl
    · have e0 : ((n : Int) != 0) = true := bne_iff_ne.2 h0
      rw [if_neg h0, e0]
      unfold spec_l01In.f
      by_cases h1 : h = 0 ∨ h = 1
      · obtain ⟨m, rfl⟩ : ∃ m, n = m + 1 := ⟨n - 1, by omega⟩
        have hl2 : l.length = 2 * 2 ^ m := by rw [hl, Nat.pow_succ, Nat.mul_comm]
        have hhalf : l.length / 2 = 2 ^ m := by omega
        rw [if_pos (by omega), Option.bind_some, if_pos (by simp; omega), ones_size, show ((l.length : Nat) : Int) / 2 = ((l.length / 2 : Nat) : Int) by omega, w64 (n := ((l.length / 2 : Nat) : Int)) (by omega) (by omega), w64 (n := ((m + 1 : Nat) : Int) - 1) (by omega) (by omega)]
        rcases h1 with h1 | h1
        · subst h1
          rw [Int.zero_mul, w64 (n := 0) (by omega) (by omega), Int.zero_add, w64 (n := ((l.length / 2 : Nat) : Int)) (by omega) (by omega), if_pos (by omega), if_pos (by omega), if_pos (by omega), Int.toNat_natCast, show (0 : Int).toNat = 0 from rfl, ones_extract, flags_ones]
          rfl
        · subst h1
          rw [Int.one_mul, w64 (n := ((l.length / 2 : Nat) : Int)) (by omega) (by omega), w64 (n := ((l.length / 2 : Nat) : Int) + ((l.length / 2 : Nat) : Int)) (by omega) (by omega), if_pos (by omega), if_pos (by omega), if_pos (by omega), Int.toNat_natCast, show (((l.length / 2 : Nat) : Int) + ((l.length / 2 : Nat) : Int)).toNat = l.length by omega, ones_extract, flags_ones, List.take_length]
          rfl
      · have e : (h == 0 || h == 1) = false := by simp; omega
        rw [e]
        by_cases h2 : h ≥ 0
        · rw [if_pos h2, Option.bind_some, if_neg (by simp; omega)]
          rfl
        · rw [if_neg h2, Option.bind_some, if_neg (by decide)]
          rfl
def dec : List Bool → List Bool → Bool
  | [], l => l.getD 0 false
  | a :: r, l => if a then dec r (halfL l false) && dec r (halfL l true) else dec r (halfL l false) || dec r (halfL l true)
theorem dec_const (b : Bool) : ∀ (r l : List Bool), l.length = 2 ^ r.length → l.contains (!b) = false → dec r l = b := by
  intro r
  induction r with
  | nil =>
    intro l hl hc
    match l, hl with
    | [x], _ => cases b <;> cases x <;> simp_all [dec]
  | cons a r ih =>
    intro l hl hc
    have hsub : ∀ h, (halfL l h).contains (!b) = false := by
      intro h
      rw [← Bool.not_eq_true, List.contains_iff_mem] at hc ⊢
      intro hm
      apply hc
      cases h
      · exact List.mem_of_mem_take hm
      · exact List.mem_of_mem_drop hm
    simp only [dec]
    rw [ih _ (halfL_len (by simpa using hl) false) (hsub false), ih _ (halfL_len (by simpa using hl) true) (hsub true)]
    cases a <;> cases b <;> rfl
def b01 (b : Bool) : Int := if b then 1 else 0
theorem spec_decide_eq : ∀ (r l : List Bool), r.length ≤ 12 → l.length = 2 ^ r.length → ∀ k, r.length + 4200 < k → spec_l08Decide.f k r (r.length : Int) (ones l) = some (b01 (dec r l)) := by
  intro r
  induction r with
  | nil =>
    intro l _ hl k hk
    obtain ⟨k, rfl⟩ : ∃ m, k = m + 1 := ⟨k - 1, by omega⟩
    simp only [spec_l08Decide.f]
    match l, hl with
    | [x], _ =>
      rw [if_pos (show ((([] : List Bool).length : Nat) : Int) = 0 from rfl), if_pos (by rw [ones_size]; simp), show bt (ones [x]) 0 = sgn x from bt_ones [x] 0 (by simp)]
      cases x <;> decide +kernel
  | cons a r ih =>
    intro l hr hl k hk
    obtain ⟨k, rfl⟩ : ∃ m, k = m + 1 := ⟨k - 1, by omega⟩
    simp only [List.length_cons] at hr hl hk
    have hp := pow12 (n := r.length + 1) (by omega)
    have ht : tok ((r.length + 1 : Nat) : Int) (ones l) = true := tok_ones (by omega) hl
    have h0 : (((r.length + 1 : Nat) : Int) != 0) = true := by rw [bne_iff_ne]; omega
    have hh : ∀ h : Int, (h = 0 ∨ h = 1) → halfT ((r.length + 1 : Nat) : Int) (ones l) h = ((r.length : Int), ones (halfL l (h == 1)), true) := by
      intro h hh
      unfold halfT
      rw [ht, h0, show (h == 0 || h == 1) = true from by simpa using hh, if_pos (by decide), flags_ones, show ((r.length + 1 : Nat) : Int) - 1 = (r.length : Int) by omega]
    simp only [spec_l08Decide.f, List.length_cons]
    rw [if_neg (by omega), spec_Half_eq _ _ 0 (by rw [ones_size]; omega) k (by rw [ones_size]; omega), spec_Half_eq _ _ 1 (by rw [ones_size]; omega) k (by rw [ones_size]; omega), hh 0 (.inl rfl), hh 1 (.inr rfl)]
    simp only [Option.bind_some, List.drop_one, List.tail_cons]
    rw [if_pos (by omega), ih _ (by omega) (halfL_len hl _) k (by omega), ih _ (by omega) (halfL_len hl _) k (by omega)]
    simp only [Option.bind_some]
    rw [if_pos (by omega), show rdOf false (a :: r) 0 = a from rfl]
    simp only [dec]
    have e0 : ((0 : Int) == 1) = false := rfl
    have e1 : ((1 : Int) == 1) = true := rfl
    rw [e0, e1]
    have key : ∀ a b c : Bool, (if a = true then some (Go.bits .and .i64 (b01 b) (b01 c)) else some (Go.bits .or .i64 (b01 b) (b01 c))) = some (b01 (if a = true then b && c else b || c)) := by decide +kernel
    exact key a _ _
def decT (r : List Bool) (N : Int) (s : ByteArray) : Int × Bool := if tok N s && ((r.length : Int) == N) then (b01 (dec r (flags s)), true) else (0, false)
theorem spec_Decide_eq (r : List Bool) (N : Int) (s : ByteArray) (hs : s.size ≤ 1099511627776) : ∀ k, s.size + 4300 < k → spec_Decide.f k r N s = some (decT r N s) := by
  intro k hk
  unfold spec_Decide.f spec_l08Ok.f decT
  rw [spec_TableOk_eq N s hs k (by omega), Option.bind_some]
  cases ht : tok N s with
  | false => rfl
  | true =>
    obtain ⟨n, l, rfl, hn, hl, rfl⟩ := tok_form ht
    rw [if_pos rfl, Option.bind_some, flags_ones, Bool.true_and]
    by_cases hr : (r.length : Int) = (n : Int)
    · have hr2 : r.length = n := by omega
      subst hr2
      rw [if_pos (by simp), if_pos (by simp), spec_decide_eq r l hn hl k (by omega)]
      rfl
    · rw [if_neg (by simpa using hr), if_neg (by simpa using hr)]
end Go.Proofs.Ytlpfmhikahlcoaa.Pure
set_option linter.unusedSimpArgs false
set_option linter.unusedVariables false
namespace Go.Proofs.Ytlpfmhikahlcoaa.Pure
open Go.RowKit Go.Proofs.Ytlpfmhikahlcoaa.G Go.Proofs.YtlpfmhikahlcoaaW.PrintWords Go.Proofs.YtlpfmhikahlcoaaW.PrintLast Go.Proofs.YtlpfmhikahlcoaaW.PrintMore
def seg (l : List Bool) (a c : Nat) : List Bool := (l.drop a).take c
theorem seg_len {l : List Bool} {a c : Nat} (h : a + c ≤ l.length) : (seg l a c).length = c := by unfold seg; rw [List.length_take, List.length_drop]; omega
theorem seg_half {l : List Bool} {a m : Nat} (h : a + 2 ^ (m + 1) ≤ l.length) (b : Bool) : halfL (seg l a (2 ^ (m + 1))) b = seg l (a + if b then 2 ^ m else 0) (2 ^ m) := by
  have hp : 2 ^ (m + 1) = 2 * 2 ^ m := by rw [Nat.pow_succ]; omega
  unfold halfL
  rw [seg_len h, hp, Nat.mul_div_cancel_left _ (by decide)]
  unfold seg
  cases b with
  | true =>
    simp only [if_true]
    rw [List.drop_take, List.drop_drop]
    congr 1
    omega
  | false =>
    simp only [Bool.false_eq_true, if_false, Nat.add_zero]
    rw [List.take_take, Nat.min_eq_left (by omega)]
def plN (v : List Int) : Nat := (plc v).toNat
theorem plN_bd {v : List Int} (h : v.all isBit = true) (i : Nat) (hi : i ≤ v.length) : plc (v.take i) = (plN (v.take i) : Int) ∧ plN (v.take i) < 2 ^ i := by
  have hb := plc_bd v i hi (fun j hj => by
    have := List.all_eq_true.1 h (v.getD j 0) (by rw [getD_lt v j 0 (by omega)]; exact List.getElem_mem _)
    exact this)
  have hc : ((2 ^ i : Nat) : Int) = (2 : Int) ^ i := by norm_cast
  unfold plN
  constructor
  · omega
  · omega
theorem plN_succ {v : List Int} (h : v.all isBit = true) (i : Nat) (hi : i < v.length) : plN (v.take (i + 1)) = 2 * plN (v.take i) + (if v.getD i 0 = 1 then 1 else 0) := by
  have h1 := (plN_bd h i (by omega)).1
  have hb : isBit (v.getD i 0) = true := List.all_eq_true.1 h (v.getD i 0) (by rw [getD_lt v i 0 hi]; exact List.getElem_mem _)
  unfold isBit at hb
  simp only [Bool.or_eq_true, beq_iff_eq] at hb
  unfold plN at h1 ⊢
  rw [take_succ_getD v i 0 hi, plc_snoc, h1]
  rcases hb with hb | hb
  · rw [hb, if_neg (by decide)]; omega
  · rw [hb, if_pos rfl]; omega
theorem impl_left_ev {n : Nat} {l : List Bool} (hn : n ≤ 12) (hl : l.length = 2 ^ n) (v : List Int) (hv : v.length ≤ n) (hb : v.all isBit = true) :
    Ev (fun k => impl_leftOf.f k (n : Int) (ones l) v) (((n - v.length : Nat) : Int), ones (seg l (plN v * 2 ^ (n - v.length)) (2 ^ (n - v.length)))) := by
  have hp := pow12 hn
  obtain ⟨h1, h2⟩ := plN_bd hb v.length (Nat.le_refl _)
  rw [List.take_length] at h1 h2
  have h3 : 2 ^ n = 2 ^ v.length * 2 ^ (n - v.length) := by rw [← Nat.pow_add]; congr 1; omega
  have h4 : (plN v + 1) * 2 ^ (n - v.length) ≤ 2 ^ n := by rw [h3]; exact Nat.mul_le_mul_right _ h2
  have h5 : plN v * 2 ^ (n - v.length) ≤ (plN v + 1) * 2 ^ (n - v.length) := Nat.mul_le_mul_right _ (by omega)
  have h6 : plN v ≤ 4096 := by have := Nat.pow_le_pow_right (n := 2) (by decide) (show v.length ≤ 12 by omega); omega
  unfold impl_leftOf.f
  refine ev_bind (ev_ge v.length (placeOfBits_eq v (by omega))) ?_
  rw [if_pos hb, h1, show wrap64 ((n : Int) - (v.length : Int)) = ((n - v.length : Nat) : Int) from by rw [w64 (by omega) (by omega)]; omega, u64_of (by omega) (by omega), shl_eq _ (by omega), show (2 : Int) ^ (n - v.length) = ((2 ^ (n - v.length) : Nat) : Int) from by norm_cast]
  have e1 : wrap64 ((plN v : Int) * ((2 ^ (n - v.length) : Nat) : Int)) = ((plN v * 2 ^ (n - v.length) : Nat) : Int) := by
    rw [← Int.natCast_mul]
    generalize plN v * 2 ^ (n - v.length) = q at *
    exact w64 (by omega) (by omega)
  have e2 : wrap64 (wrap64 ((plN v : Int) + 1) * ((2 ^ (n - v.length) : Nat) : Int)) = (((plN v + 1) * 2 ^ (n - v.length) : Nat) : Int) := by
    rw [w64s _ (by omega), ← Int.natCast_mul]
    generalize (plN v + 1) * 2 ^ (n - v.length) = q at *
    exact w64 (by omega) (by omega)
  simp only [e1, e2, ones_size, hl, Int.toNat_natCast, if_pos (Int.natCast_nonneg _), if_pos (Int.ofNat_le.2 h5), if_pos (Int.ofNat_le.2 h4)]
  rw [ones_extract, show (l.take ((plN v + 1) * 2 ^ (n - v.length))).drop (plN v * 2 ^ (n - v.length)) = seg l (plN v * 2 ^ (n - v.length)) (2 ^ (n - v.length)) from by
    unfold seg
    rw [List.drop_take]
    congr 1
    rw [Nat.succ_mul]
    exact Nat.add_sub_cancel_left _ _]
  exact ev_some _
end Go.Proofs.Ytlpfmhikahlcoaa.Pure
set_option linter.unusedSimpArgs false
set_option linter.unusedVariables false
namespace Go.Proofs.Ytlpfmhikahlcoaa.Pure
open Go.RowKit Go.Proofs.Ytlpfmhikahlcoaa.G Go.Proofs.YtlpfmhikahlcoaaW.PrintWords Go.Proofs.YtlpfmhikahlcoaaW.PrintLast Go.Proofs.YtlpfmhikahlcoaaW.PrintMore
def digs (n : Nat) : List UInt8 := if n < 10 then [UInt8.ofNat (48 + n)] else digs (n / 10) ++ [UInt8.ofNat (48 + n % 10)]
termination_by n
decreasing_by omega
theorem digs_small {n : Nat} (h : n < 10) : digs n = [UInt8.ofNat (48 + n)] := by rw [digs, if_pos h]
theorem digs_big {n : Nat} (h : ¬ n < 10) : digs n = digs (n / 10) ++ [UInt8.ofNat (48 + n % 10)] := by rw [digs, if_neg h]
theorem digs_len (d : Nat) : ∀ n, n < 10 ^ d → (digs n).length ≤ max 1 d := by
  induction d with
  | zero => intro n hn; rw [digs_small (by omega)]; simp
  | succ d ih =>
    intro n hn
    by_cases h : n < 10
    · rw [digs_small h]; simp <;> omega
    · rw [digs_big h]
      have := ih (n / 10) (by rw [Nat.pow_succ] at hn; omega)
      simp
      by_cases hd : d = 0
      · subst hd; omega
      · omega
def byts (l : List UInt8) : ByteArray := ⟨l.toArray⟩
theorem byts_append (a b : List UInt8) : byts a ++ byts b = byts (a ++ b) := by
  apply data_inj
  rw [ByteArray.data_append]
  simp [byts]
theorem byts_size (l : List UInt8) : (byts l).size = l.length := by
  show l.toArray.size = _
  simp
theorem byts_inj {a b : List UInt8} (h : byts a = byts b) : a = b := by
  have := congrArg (fun s : ByteArray => s.data.toList) h
  simpa [byts] using this
theorem ones_byts (l : List Bool) : ones l = byts (l.map fun b => if b then (49 : UInt8) else 48) := rfl
theorem digits_step (k : Nat) (s : List UInt8) (x : Nat) (h1 : x ≤ 18446744073709551615) (hs : s.length ≤ 100) (h0 : s = [] ∨ 0 < x) : impl_digits.l0 (k + 1) (x : Int) (byts s) = impl_digits.l0 k ((x / 10 : Nat) : Int) (byts (UInt8.ofNat (48 + x % 10) :: s)) := by
  have hm : Int.tmod (x : Int) 10 = ((x % 10 : Nat) : Int) := by rw [Int.tmod_eq_emod_of_nonneg (by omega)]; omega
  have hd : Int.tdiv (x : Int) 10 = ((x / 10 : Nat) : Int) := by rw [Int.tdiv_eq_ediv_of_nonneg (by omega)]; omega
  have he : (byts s).toList = s := by rw [toList_data]; simp [byts]
  have hc : strOfNums [(IntKind.u64.wrap (48 + Int.tmod (x : Int) 10)) % 256] = byts [UInt8.ofNat (48 + x % 10)] := by
    rw [hm, u64_of (by omega) (by omega), show ((48 : Int) + ((x % 10 : Nat) : Int)) % 256 = ((48 + x % 10 : Nat) : Int) by omega]
    rfl
  simp only [impl_digits.l0, he, Option.bind_some, hc, byts_size, hd]
  rw [u64_of (a := ((x / 10 : Nat) : Int)) (by omega) (by omega), byts_append]
  by_cases hs0 : s = []
  · rw [if_pos hs0, if_pos (by rw [List.length_singleton]; omega)]; rfl
  · have hx := h0.resolve_left hs0
    rw [if_neg hs0, if_pos (by omega), if_pos (by rw [List.length_singleton]; omega)]; rfl
theorem digits_stop (k : Nat) (s : List UInt8) (hs : s ≠ []) : impl_digits.l0 (k + 1) 0 (byts s) = some (byts s) := by
  have he : (byts s).toList = s := by rw [toList_data]; simp [byts]
  simp only [impl_digits.l0, he]
  rw [if_neg hs, if_neg (by decide)]
theorem digits_loop (d : Nat) : ∀ (x : Nat) (s : List UInt8) (k : Nat), (s = [] ∨ 0 < x) → x < 10 ^ (d + 1) → x ≤ 18446744073709551615 → s.length + d ≤ 60 → d + 1 < k → impl_digits.l0 k (x : Int) (byts s) = some (byts (digs x ++ s)) := by
  induction d with
  | zero =>
    intro x s k h0 h1 h2 h3 hk
    obtain ⟨k, rfl⟩ : ∃ m, k = m + 2 := ⟨k - 2, by omega⟩
    rw [digits_step (k + 1) s x h2 (by omega) h0, show x / 10 = 0 by omega, show ((0 : Nat) : Int) = 0 from rfl, digits_stop _ _ (by simp), digs_small (by omega), Nat.mod_eq_of_lt (by omega)]
    rfl
  | succ d ih =>
    intro x s k h0 h1 h2 h3 hk
    obtain ⟨k, rfl⟩ : ∃ m, k = m + 1 := ⟨k - 1, by omega⟩
    rw [digits_step k s x h2 (by omega) h0]
    by_cases h : x < 10
    · obtain ⟨k, rfl⟩ : ∃ m, k = m + 1 := ⟨k - 1, by omega⟩
      rw [show x / 10 = 0 by omega, show ((0 : Nat) : Int) = 0 from rfl, digits_stop _ _ (by simp), digs_small h, Nat.mod_eq_of_lt h]
      rfl
    · rw [ih (x / 10) _ k (.inr (by omega)) (by rw [Nat.pow_succ] at h1; omega) (by omega) (by simp; omega) (by omega), digs_big h]
      simp
theorem impl_digits_eq (n : Nat) (hn : n ≤ 18446744073709551615) : ∀ k, 22 ≤ k → impl_digits.f k (n : Int) = some (byts (digs n)) := by
  intro k hk
  unfold impl_digits.f
  have h := digits_loop 19 n [] k (.inl rfl) (by omega) hn (by simp) (by omega)
  simpa [byts] using h
def decs (a : Int) : List UInt8 := if a < 0 then 45 :: digs (-a).toNat else digs a.toNat
theorem impl_decimal_eq (a : Int) (h0 : -9223372036854775808 ≤ a) (h1 : a ≤ 9223372036854775807) : ∀ k, 22 ≤ k → impl_decimal.f k a = some (byts (decs a)) := by
  intro k hk
  unfold impl_decimal.f decs
  by_cases h : a < 0
  · rw [if_pos h, if_pos h, w64 (n := a + 1) (by omega) (by omega), w64 (n := -(a + 1)) (by omega) (by omega), u64_of (a := -(a + 1)) (by omega) (by omega), u64_of (a := -(a + 1) + 1) (by omega) (by omega), show -(a + 1) + 1 = (((-a).toNat : Nat) : Int) by omega, impl_digits_eq _ (by omega) k hk, Option.bind_some]
    have := digs_len 20 (-a).toNat (by omega)
    rw [if_pos (by rw [byts_size]; omega)]
    exact congrArg some (byts_append [45] _)
  · rw [if_neg h, if_neg h, u64_of (by omega) (by omega), show a = ((a.toNat : Nat) : Int) by omega, impl_digits_eq _ (by omega) k hk, Option.bind_some]
    rfl
theorem impl_decimal_nat (n : Nat) (hn : n ≤ 9223372036854775807) : ∀ k, 22 ≤ k → impl_decimal.f k (n : Int) = some (byts (digs n)) := by
  intro k hk
  rw [impl_decimal_eq (n : Int) (by omega) (by omega) k hk, decs, if_neg (by omega), Int.toNat_natCast]
def keyOf (N : Int) (s : ByteArray) : ByteArray := if tok N s then byts (digs N.toNat) ++ ⟨#[58]⟩ ++ s else ⟨#[]⟩
theorem digs12 {n : Nat} (h : n ≤ 12) : (digs n).length ≤ 2 := by
  have := digs_len 2 n (by omega)
  omega
end Go.Proofs.Ytlpfmhikahlcoaa.Pure
set_option linter.unusedSimpArgs false
set_option linter.unusedVariables false
namespace Go.Proofs.Ytlpfmhikahlcoaa.Pure
open Go.RowKit Go.Proofs.Ytlpfmhikahlcoaa.G Go.Proofs.YtlpfmhikahlcoaaW.PrintWords Go.Proofs.YtlpfmhikahlcoaaW.PrintLast Go.Proofs.YtlpfmhikahlcoaaW.PrintMore
def knL (l : List Bool) : Int := if l.contains true then (if l.contains false then -1 else 1) else 0
theorem knL_bd (l : List Bool) : -1 ≤ knL l ∧ knL l ≤ 1 := by
  unfold knL
  split
  · split <;> decide
  · decide
theorem knL_one {l : List Bool} (h : l.length = 1) : 0 ≤ knL l := by
  obtain ⟨a, rfl⟩ := List.length_eq_one_iff.1 h
  cases a <;> decide
def tabV (n : Nat) (l : List Bool) (v : List Int) : List Bool := seg l (plN v * 2 ^ (n - v.length)) (2 ^ (n - v.length))
theorem tabV_len {n : Nat} {l : List Bool} (hl : l.length = 2 ^ n) {v : List Int} (hv : v.length ≤ n) (hb : v.all isBit = true) : (tabV n l v).length = 2 ^ (n - v.length) := by
  obtain ⟨h1, h2⟩ := plN_bd hb v.length (Nat.le_refl _)
  rw [List.take_length] at h2
  have h3 : 2 ^ n = 2 ^ v.length * 2 ^ (n - v.length) := by rw [← Nat.pow_add]; congr 1; omega
  refine seg_len ?_
  rw [hl, h3, ← Nat.succ_mul]
  exact Nat.mul_le_mul_right _ h2
def keyV (n : Nat) (l : List Bool) (v : List Int) : ByteArray := keyOf ((n - v.length : Nat) : Int) (ones (tabV n l v))
theorem impl_key_ev {n : Nat} {l : List Bool} (hn : n ≤ 12) (hl : l.length = 2 ^ n) : Ev (fun k => impl_Table_key.f k (n : Int) (ones l)) (keyOf (n : Int) (ones l)) := by
  have hp := pow12 hn
  have hd := digs12 hn
  refine ev_ge 22 fun k hk => ?_
  unfold impl_Table_key.f keyOf
  rw [impl_decimal_nat n (by omega) k (by omega), Option.bind_some, byts_size, ones_size, if_pos (by omega), if_pos (by omega), tok_ones hn hl, if_pos rfl, Int.toNat_natCast]
def look (key : ByteArray) : List S86 → Option Int
  | [] => none
  | x :: r => if x.f0.toList = key.toList then some x.f1 else look key r
theorem drop_rdS (m : List S86) (i : Nat) (hi : i < m.length) : m.drop i = rd_T86 m (i : Int) :: m.drop (i + 1) := by
  rw [List.drop_eq_getElem_cons hi, rdS_nat, getD_lt m i _ hi]
theorem impl_seen_ev (key : ByteArray) (m : List S86) (hm : m.length ≤ 1048576) : ∃ q : Int, Ev (fun k => seenF k m key 0) q ∧ ((q = -1 ∧ look key m = none) ∨ (0 ≤ q ∧ q < (m.length : Int) ∧ look key m = some (rd_T86 m q).f1)) := by
  have h : ∀ d i, i + d = m.length → ∃ q : Int, Ev (fun k => seenF k m key (i : Int)) q ∧ ((q = -1 ∧ look key (m.drop i) = none) ∨ (0 ≤ q ∧ q < (m.length : Int) ∧ look key (m.drop i) = some (rd_T86 m q).f1)) := by
    intro d
    induction d with
    | zero =>
      intro i hi
      refine ⟨-1, ev_succ ?_, .inl ⟨rfl, by rw [List.drop_of_length_le (by omega)]; rfl⟩⟩
      simp only [seenF, if_neg (show ¬ (i : Int) < (m.length : Int) by omega)]
      exact ev_some _
    | succ d ih =>
      intro i hi
      rw [drop_rdS m i (by omega)]
      simp only [look]
      by_cases c : (rd_T86 m (i : Int)).f0.toList = key.toList
      · refine ⟨(i : Int), ev_succ ?_, .inr ⟨by omega, by omega, by rw [if_pos c]⟩⟩
        simp only [seenF, if_pos (show (i : Int) < (m.length : Int) by omega), if_pos (show 0 ≤ (i : Int) by omega), if_pos c]
        exact ev_some _
      · obtain ⟨q, e, hq⟩ := ih (i + 1) (by omega)
        refine ⟨q, ev_succ ?_, by rw [if_neg c]; exact hq⟩
        simp only [seenF, if_pos (show (i : Int) < (m.length : Int) by omega), if_pos (show 0 ≤ (i : Int) by omega), if_neg c, w64s i (show i < 4611686018427387904 by omega)]
        exact e
  exact h m.length 0 (by omega)
theorem look_01 {key : ByteArray} : ∀ {m : List S86}, (∀ x ∈ m, x.f1 = 0 ∨ x.f1 = 1) → ∀ {r : Int}, look key m = some r → r = 0 ∨ r = 1 := by
  intro m
  induction m with
  | nil => intro _ r h; cases h
  | cons x m ih =>
    intro hm r h
    simp only [look] at h
    split at h
    · obtain rfl := Option.some.inj h; exact hm x (by simp)
    · exact ih (fun y hy => hm y (by simp [hy])) h
structure MInv (n : Nat) (l : List Bool) (M : MS) : Prop where
  hn : n ≤ 12
  hl : l.length = 2 ^ n
  N : M.N = (n : Int)
  s : M.s = ones l
  r : M.r.length = n
  v : M.v.length ≤ n
  vb : M.v.all isBit = true
  ret : -1 ≤ M.ret ∧ M.ret ≤ 1
  st : 0 ≤ M.st ∧ M.st ≤ 1000000000
  lo : 0 ≤ M.lo ∧ M.lo ≤ 1000000000
  hi : 0 ≤ M.hi ∧ M.hi ≤ 1000000000
  room : 0 ≤ M.room ∧ M.room ≤ 40
  memo : (M.memo.length : Int) ≤ M.room
  m01 : ∀ x ∈ M.memo, x.f1 = 0 ∨ x.f1 = 1
def downR (n : Nat) (l : List Bool) (M : MS) : MS :=
  if 0 ≤ knL (tabV n l M.v) then { M with ret := knL (tabV n l M.v), lo := M.lo + 1 } else
  match look (keyV n l M.v) M.memo with
  | some r => { M with ret := r, hi := M.hi + 1 }
  | none => { M with v := M.v ++ [0] }
def upR (n : Nat) (l : List Bool) (M : MS) : MS :=
  if M.v.length = 0 then { M with over := true } else
  if (M.r.getD (M.v.length - 1) false != (M.ret == 0)) = true ∧ M.v.getD (M.v.length - 1) 0 = 0 then { M with v := M.v.set (M.v.length - 1) 1, ret := -1 } else
  if M.room = 0 then { M with v := M.v.take (M.v.length - 1) } else
  match look (keyV n l (M.v.take (M.v.length - 1))) M.memo with
  | some _ => { M with v := M.v.take (M.v.length - 1) }
  | none => { M with v := M.v.take (M.v.length - 1), memo := if ((M.memo ++ [(⟨keyV n l (M.v.take (M.v.length - 1)), M.ret⟩ : S86)]).length : Int) > M.room then (M.memo ++ [(⟨keyV n l (M.v.take (M.v.length - 1)), M.ret⟩ : S86)]).drop 1 else M.memo ++ [(⟨keyV n l (M.v.take (M.v.length - 1)), M.ret⟩ : S86)] }
theorem impl_down_ev {n : Nat} {l : List Bool} {M : MS} (h : MInv n l M) (hlo : M.lo < 1000000000) (hhi : M.hi < 1000000000) : Ev (fun k => downF k M) (downR n l M) := by
  unfold downF downR
  rw [h.N, h.s]
  have hlen := tabV_len h.hl h.v h.vb
  have hn := h.hn
  have hv := h.v
  have hr := h.room
  have hm := h.memo
  refine ev_bind (impl_left_ev h.hn h.hl M.v h.v h.vb) ?_
  show Ev (fun k => (impl_Table_known.f ((n - M.v.length : Nat) : Int) (ones (tabV n l M.v))).bind _) _
  simp only [impl_Table_known_eq, Option.bind_some]
  by_cases c : 0 ≤ knL (tabV n l M.v)
  · rw [if_pos c]
    unfold knL at c ⊢
    simp only [if_pos c]
    have hw : wrap64 (M.lo + 1) = M.lo + 1 := w64 (by have := h.lo; omega) (by omega)
    simp only [hw]
    exact ev_some _
  rw [if_neg c]
  unfold knL at c
  simp only [if_neg c]
  refine ev_bind (impl_key_ev (by omega) hlen) ?_
  show Ev (fun k => (seenF k M.memo (keyV n l M.v) 0).bind _) _
  obtain ⟨q, eq, hq⟩ := impl_seen_ev (keyV n l M.v) M.memo (by omega)
  refine ev_bind eq ?_
  rcases hq with ⟨rfl, hk⟩ | ⟨h0, h1, hk⟩
  · rw [hk]
    simp only [if_neg (show ¬ (0 : Int) ≤ -1 by decide), if_pos (show M.v.length < 17592186044416 by omega)]
    exact ev_some _
  · rw [hk]
    simp only [if_pos h0, if_pos h1]
    have hw : wrap64 (M.hi + 1) = M.hi + 1 := w64 (by have := h.hi; omega) (by omega)
    simp only [hw]
    exact ev_some _
theorem take_bits {v : List Int} (h : v.all isBit = true) (m : Nat) : (v.take m).all isBit = true := List.all_eq_true.2 fun x hx => List.all_eq_true.1 h x (List.mem_of_mem_take hx)
theorem upD {M : MS} {n : Nat} {l : List Bool} (h : MInv n l M) (h0 : M.v.length ≠ 0) : wrap64 ((M.v.length : Int) - 1) = ((M.v.length - 1 : Nat) : Int) := by
  have := h.v
  have := h.hn
  rw [w64 (by omega) (by omega)]
  omega
theorem impl_up_ev {n : Nat} {l : List Bool} {M : MS} (h : MInv n l M) (hret : 0 ≤ M.ret) : Ev (fun k => upF k M) (upR n l M) := by
  unfold upF upR
  have hn := h.hn
  have hv := h.v
  have hr := h.room
  have hm := h.memo
  by_cases c0 : M.v.length = 0
  · rw [if_pos c0]
    simp only [c0, if_pos (show wrap64 (((0 : Nat) : Int) - 1) < 0 by decide +kernel)]
    exact ev_some _
  rw [if_neg c0]
  simp only [upD h c0, if_neg (show ¬ ((M.v.length - 1 : Nat) : Int) < 0 by omega), if_pos (show ((M.v.length - 1 : Nat) : Int) < (M.r.length : Int) ∧ ((M.v.length - 1 : Nat) : Int) < (M.v.length : Int) by have := h.r; omega), rdOf_nat, Int.toNat_natCast, beq_iff_eq]
  by_cases c1 : (M.r.getD (M.v.length - 1) false != (M.ret == 0)) = true ∧ M.v.getD (M.v.length - 1) 0 = 0
  · simp only [if_pos c1]; exact ev_some _
  simp only [if_neg c1]
  by_cases c2 : M.room = 0
  · simp only [if_pos c2]; exact ev_some _
  simp only [if_neg c2]
  have hV : (M.v.take (M.v.length - 1)).length = M.v.length - 1 := by rw [List.length_take]; omega
  have hb := take_bits h.vb (M.v.length - 1)
  have hlen := tabV_len h.hl (v := M.v.take (M.v.length - 1)) (by omega) hb
  have e0 := impl_left_ev h.hn h.hl (M.v.take (M.v.length - 1)) (by omega) hb
  rw [← h.N, ← h.s] at e0
  refine ev_bind e0 ?_
  refine ev_bind (impl_key_ev (n := n - (M.v.take (M.v.length - 1)).length) (l := tabV n l (M.v.take (M.v.length - 1))) (by omega) hlen) ?_
  obtain ⟨q, eq, hq⟩ := impl_seen_ev (keyV n l (M.v.take (M.v.length - 1))) M.memo (by omega)
  refine ev_bind eq ?_
  rcases hq with ⟨rfl, hk⟩ | ⟨h0, h1, hk⟩
  · rw [hk]
    simp only [if_neg (show ¬ (0 : Int) ≤ -1 by decide), if_pos (show M.memo.length < 5864062014805 by omega)]
    by_cases c3 : ((M.memo ++ [(⟨keyV n l (M.v.take (M.v.length - 1)), M.ret⟩ : S86)]).length : Int) > M.room
    · simp only [if_pos c3]
      refine ev_eq (f := fun _ => some _) (fun k => if_pos c3) (ev_some _)
    · simp only [if_neg c3]
      refine ev_eq (f := fun _ => some _) (fun k => if_neg c3) (ev_some _)
  · rw [hk]
    simp only [if_pos h0]
    exact ev_some _
def stopR (M : MS) : Bool := M.over || (M.st == 1000000000) || (M.lo == 1000000000) || (M.hi == 1000000000)
def stepR (n : Nat) (l : List Bool) (M : MS) : MS := if M.ret < 0 then downR n l { M with st := M.st + 1 } else upR n l { M with st := M.st + 1 }
def runR (n : Nat) (l : List Bool) : Nat → MS → MS
  | 0, M => M
  | d + 1, M => if stopR M = true then M else runR n l d (stepR n l M)
theorem MInv.down {n : Nat} {l : List Bool} {M : MS} (h : MInv n l M) (hlo : M.lo < 1000000000) (hhi : M.hi < 1000000000) : MInv n l (downR n l M) := by
  unfold downR
  have hb := knL_bd (tabV n l M.v)
  have h1 := h.lo
  have h2 := h.hi
  by_cases c : 0 ≤ knL (tabV n l M.v)
  · rw [if_pos c]
    exact { h with ret := hb, lo := by show 0 ≤ M.lo + 1 ∧ M.lo + 1 ≤ 1000000000; omega }
  rw [if_neg c]
  have hv : M.v.length < n := by
    rcases Nat.lt_or_ge M.v.length n with h3 | h3
    · exact h3
    · have hlen := tabV_len h.hl h.v h.vb
      have : n - M.v.length = 0 := by omega
      rw [this] at hlen
      exact absurd (knL_one hlen) c
  cases hk : look (keyV n l M.v) M.memo with
  | none => exact { h with v := by show (M.v ++ [0]).length ≤ n; simp; omega, vb := by show (M.v ++ [0]).all isBit = true; rw [List.all_append, h.vb]; rfl }
  | some r =>
    have := look_01 h.m01 hk
    exact { h with ret := by show -1 ≤ r ∧ r ≤ 1; omega, hi := by show 0 ≤ M.hi + 1 ∧ M.hi + 1 ≤ 1000000000; omega }
theorem MInv.up {n : Nat} {l : List Bool} {M : MS} (h : MInv n l M) (hret : 0 ≤ M.ret) : MInv n l (upR n l M) := by
  unfold upR
  have hv := h.v
  have hm := h.memo
  have hr := h.room
  have h1 := h.ret
  by_cases c0 : M.v.length = 0
  · rw [if_pos c0]; exact { h with }
  rw [if_neg c0]
  have hV : (M.v.take (M.v.length - 1)).length ≤ n := by rw [List.length_take]; omega
  have hb := take_bits h.vb (M.v.length - 1)
  by_cases c1 : (M.r.getD (M.v.length - 1) false != (M.ret == 0)) = true ∧ M.v.getD (M.v.length - 1) 0 = 0
  · rw [if_pos c1]
    refine { h with v := by show (M.v.set (M.v.length - 1) 1).length ≤ n; rw [List.length_set]; exact hv, vb := ?_, ret := by show -1 ≤ (-1 : Int) ∧ (-1 : Int) ≤ 1; omega }
    show (M.v.set (M.v.length - 1) 1).all isBit = true
    refine List.all_eq_true.2 fun x hx => ?_
    rcases List.mem_or_eq_of_mem_set hx with hx | hx
    · exact List.all_eq_true.1 h.vb x hx
    · rw [hx]; rfl
  rw [if_neg c1]
  by_cases c2 : M.room = 0
  · rw [if_pos c2]; exact { h with v := hV, vb := hb }
  rw [if_neg c2]
  cases hk : look (keyV n l (M.v.take (M.v.length - 1))) M.memo with
  | some r => exact { h with v := hV, vb := hb }
  | none =>
    refine { h with v := hV, vb := hb, memo := ?_, m01 := ?_ }
    · dsimp only
      split
      · rw [List.length_drop, List.length_append, List.length_singleton]; omega
      · rename_i c; omega
    · dsimp only
      intro x hx
      have hx2 : x ∈ M.memo ++ [(⟨keyV n l (M.v.take (M.v.length - 1)), M.ret⟩ : S86)] := by
        split at hx
        · exact List.mem_of_mem_drop hx
        · exact hx
      rcases List.mem_append.1 hx2 with hx3 | hx3
      · exact h.m01 x hx3
      · rw [List.mem_singleton.1 hx3]; show M.ret = 0 ∨ M.ret = 1; omega
theorem stop_no {M : MS} (h : stopR M = false) : M.over = false ∧ M.st ≠ 1000000000 ∧ M.lo ≠ 1000000000 ∧ M.hi ≠ 1000000000 := by
  unfold stopR at h
  simpa [and_assoc] using h
theorem MInv.st1 {n : Nat} {l : List Bool} {M : MS} (h : MInv n l M) (hs : M.st ≠ 1000000000) : MInv n l { M with st := M.st + 1 } := by
  have := h.st
  exact { h with st := by show 0 ≤ M.st + 1 ∧ M.st + 1 ≤ 1000000000; omega }
theorem MInv.step {n : Nat} {l : List Bool} {M : MS} (h : MInv n l M) (hs : stopR M = false) : MInv n l (stepR n l M) := by
  obtain ⟨_, s1, s2, s3⟩ := stop_no hs
  have h1 := h.lo
  have h2 := h.hi
  unfold stepR
  split
  · exact (h.st1 s1).down (by show M.lo < _; omega) (by show M.hi < _; omega)
  · exact (h.st1 s1).up (by show 0 ≤ M.ret; omega)
theorem runR_stop (n : Nat) (l : List Bool) {M : MS} (h : stopR M = true) : ∀ d, runR n l d M = M := by
  intro d
  cases d with
  | zero => rfl
  | succ d => unfold runR; rw [if_pos h]
theorem impl_step_ev {n : Nat} {l : List Bool} {M : MS} (h : MInv n l M) : Ev (fun k => stepF k M) (if stopR M = true then (M, false) else (stepR n l M, true)) := by
  cases hs : stopR M with
  | true =>
    simp only [if_true]
    refine ev_eq (f := fun _ => some (M, false)) (fun k => ?_) (ev_some _)
    unfold stopR at hs
    simp only [Bool.or_eq_true, beq_iff_eq] at hs
    unfold stepF
    by_cases c1 : M.over = true
    · rw [if_pos c1]
    rw [if_neg c1]
    by_cases c2 : M.st = 1000000000
    · rw [if_pos c2]
    rw [if_neg c2]
    by_cases c3 : M.lo = 1000000000
    · rw [if_pos c3]
    rw [if_neg c3]
    by_cases c4 : M.hi = 1000000000
    · rw [if_pos c4]
    simp [c1, c2, c3, c4] at hs
  | false =>
    obtain ⟨s0, s1, s2, s3⟩ := stop_no hs
    have h1 := h.lo
    have h2 := h.hi
    have h3 := h.st
    have hi := h.st1 s1
    simp only [Bool.false_eq_true, if_false]
    unfold stepF stepR
    simp only [if_neg (show ¬ M.over = true by rw [s0]; decide), if_neg s1, if_neg s2, if_neg s3, w64 (n := M.st + 1) (by omega) (by omega)]
    by_cases c : M.ret < 0
    · simp only [if_pos c]
      exact ev_bind (impl_down_ev hi (by show M.lo < _; omega) (by show M.hi < _; omega)) (ev_some _)
    · simp only [if_neg c]
      exact ev_bind (impl_up_ev hi (by show 0 ≤ M.ret; omega)) (ev_some _)
theorem impl_run_ev {n : Nat} {l : List Bool} (m : Nat) (hm : m ≤ 100000) : ∀ (d i : Nat) (M : MS), i + d = m → MInv n l M → Ev (fun k => runF k M (i : Int) (m : Int)) (runR n l d M) := by
  intro d
  induction d with
  | zero =>
    intro i M hi h
    refine ev_succ ?_
    simp only [runF, if_neg (show ¬ (i : Int) < (m : Int) by omega)]
    exact ev_some _
  | succ d ih =>
    intro i M hi h
    refine ev_succ ?_
    simp only [runF, if_pos (show (i : Int) < (m : Int) by omega), w64s i (show i < 4611686018427387904 by omega)]
    refine ev_bind (impl_step_ev h) ?_
    unfold runR
    cases hs : stopR M with
    | true => simp only [if_true, Bool.false_eq_true, if_false]; exact ev_some _
    | false => simp only [Bool.false_eq_true, if_false, if_true]; exact ih (i + 1) _ (by omega) (h.step hs)
theorem MInv.run {n : Nat} {l : List Bool} : ∀ (d : Nat) {M : MS}, MInv n l M → MInv n l (runR n l d M) := by
  intro d
  induction d with
  | zero => intro M h; exact h
  | succ d ih =>
    intro M h
    unfold runR
    cases hs : stopR M with
    | true => exact h
    | false => exact ih (h.step hs)
end Go.Proofs.Ytlpfmhikahlcoaa.Pure
set_option linter.unusedSimpArgs false
set_option linter.unusedVariables false
namespace Go.Proofs.Ytlpfmhikahlcoaa.Pure
open Go.RowKit Go.Proofs.Ytlpfmhikahlcoaa.G Go.Proofs.YtlpfmhikahlcoaaW.PrintWords Go.Proofs.YtlpfmhikahlcoaaW.PrintLast Go.Proofs.YtlpfmhikahlcoaaW.PrintMore
theorem digs_two {n : Nat} (h : n ≤ 12) : (digs n).length = if n < 10 then 1 else 2 := by
  by_cases c : n < 10
  · rw [if_pos c, digs_small c]; rfl
  · rw [if_neg c, digs_big c, digs_small (by omega)]; rfl
theorem key_sizes : ∀ x y : Fin 13, (if x.1 < 10 then 1 else 2) + 1 + 2 ^ x.1 = (if y.1 < 10 then 1 else 2) + 1 + 2 ^ y.1 → x = y := by decide +kernel
theorem keyOf_inj2 {n m : Nat} {a b : List Bool} (hn : n ≤ 12) (hm : m ≤ 12) (ha : a.length = 2 ^ n) (hb : b.length = 2 ^ m) (h : keyOf (n : Int) (ones a) = keyOf (m : Int) (ones b)) : n = m ∧ a = b := by
  unfold keyOf at h
  rw [tok_ones hn ha, tok_ones hm hb, if_pos rfl, if_pos rfl, Int.toNat_natCast, Int.toNat_natCast, ones_byts, ones_byts, show (⟨#[58]⟩ : ByteArray) = byts [58] from rfl, byts_append, byts_append, byts_append, byts_append] at h
  have e := byts_inj h
  have hl := congrArg List.length e
  simp only [List.length_append, List.length_map, digs_two hn, digs_two hm, ha, hb, List.length_singleton] at hl
  have hnm : n = m := congrArg Fin.val (key_sizes ⟨n, by omega⟩ ⟨m, by omega⟩ hl)
  subst hnm
  refine ⟨rfl, ones_inj ?_⟩
  rw [ones_byts, ones_byts, List.append_cancel_left e]
def memT (n : Nat) (r : List Bool) (m : List S86) : Prop := ∀ x ∈ m, ∃ (j : Nat) (t : List Bool), j ≤ n ∧ t.length = 2 ^ j ∧ x.f0 = keyOf (j : Int) (ones t) ∧ x.f1 = b01 (dec (r.drop (n - j)) t)
theorem look_true {n : Nat} {r : List Bool} (hn : n ≤ 12) {j : Nat} {t : List Bool} (hj : j ≤ n) (ht : t.length = 2 ^ j) : ∀ {m : List S86}, memT n r m → ∀ {q : Int}, look (keyOf (j : Int) (ones t)) m = some q → q = b01 (dec (r.drop (n - j)) t) := by
  intro m
  induction m with
  | nil => intro _ q h; cases h
  | cons x m ih =>
    intro hm q h
    simp only [look] at h
    split at h
    · rename_i c
      obtain rfl := Option.some.inj h
      obtain ⟨j', t', h1, h2, h3, h4⟩ := hm x (by simp)
      have c := toList_inj.1 c
      rw [h3] at c
      obtain ⟨rfl, rfl⟩ := keyOf_inj2 (by omega) (by omega) h2 ht c
      exact h4
    · exact ih (fun y hy => hm y (by simp [hy])) h
theorem look_none {key : ByteArray} : ∀ {m : List S86}, look key m = none → key ∉ m.map fun s => s.f0 := by
  intro m
  induction m with
  | nil => intro _; simp
  | cons x m ih =>
    intro h
    simp only [look] at h
    split at h
    · cases h
    · rename_i c
      simp only [List.map_cons, List.mem_cons, not_or]
      exact ⟨fun e => c (by rw [e]), ih h⟩
theorem knL_dec {r t : List Bool} (hl : t.length = 2 ^ r.length) (h : 0 ≤ knL t) : knL t = b01 (dec r t) := by
  unfold knL at h ⊢
  cases c1 : t.contains true with
  | true =>
    rw [c1, if_pos rfl] at h
    cases c2 : t.contains false with
    | true => rw [c2, if_pos rfl] at h; exact absurd h (by decide)
    | false => rw [dec_const true r t hl c2]; rfl
  | false => rw [dec_const false r t hl c1]; rfl
theorem plN_snoc {v : List Int} (hb : v.all isBit = true) (b : Bool) : plN (v ++ [b01 b]) = 2 * plN v + (if b then 1 else 0) := by
  have hb2 : (v ++ [b01 b]).all isBit = true := by rw [List.all_append, hb]; cases b <;> rfl
  have h := plN_succ hb2 v.length (by simp)
  rw [List.take_of_length_le (by simp), List.take_left] at h
  rw [h, getD_lt _ _ _ (by simp)]
  congr 1
  rw [List.getElem_append_right (Nat.le_refl _)]
  cases b <;> simp [b01]
theorem tabV_snoc {n : Nat} {l : List Bool} (hl : l.length = 2 ^ n) {v : List Int} (hv : v.length < n) (hb : v.all isBit = true) (b : Bool) : tabV n l (v ++ [b01 b]) = halfL (tabV n l v) b := by
  obtain ⟨k, hk⟩ : ∃ k, n - v.length = k + 1 := ⟨n - v.length - 1, by omega⟩
  have hk2 : n - (v ++ [b01 b]).length = k := by simp; omega
  have h1 := (plN_bd hb v.length (Nat.le_refl _)).2
  rw [List.take_length] at h1
  have h3 : 2 ^ n = 2 ^ v.length * 2 ^ (k + 1) := by rw [← Nat.pow_add]; congr 1; omega
  have h2 : plN v * 2 ^ (k + 1) + 2 ^ (k + 1) ≤ l.length := by
    rw [hl, h3, ← Nat.succ_mul]
    exact Nat.mul_le_mul_right _ h1
  unfold tabV
  rw [hk, hk2, seg_half h2, plN_snoc hb]
  congr 1
  rw [Nat.add_mul, Nat.pow_succ]
  cases b
  · simp; rw [Nat.mul_comm 2 (plN v), Nat.mul_assoc, Nat.mul_comm 2]
  · simp; rw [Nat.mul_comm 2 (plN v), Nat.mul_assoc, Nat.mul_comm 2]
theorem tabV_nil {n : Nat} {l : List Bool} (hl : l.length = 2 ^ n) : tabV n l [] = l := by
  unfold tabV seg
  rw [show plN [] = 0 from rfl]
  simp [← hl]
structure Wv (n : Nat) (l r : List Bool) (rm : Int) (M : MS) : Prop where
  inv : MInv n l M
  hr : M.r = r
  room : M.room = rm
  mem : memT n r M.memo
  nd : (M.memo.map fun s => s.f0).Nodup
  lo : M.lo ≤ M.st
  hi : M.hi ≤ M.st
  h0 : rm = 0 → M.hi = 0
  over : M.over = false
def Reach (n : Nat) (l : List Bool) (d : Nat) (M M' : MS) : Prop := ∀ e, runR n l (d + e) M = runR n l e M'
theorem Reach.trans {n : Nat} {l : List Bool} {a b : Nat} {M M1 M2 : MS} (h : Reach n l a M M1) (h' : Reach n l b M1 M2) : Reach n l (a + b) M M2 := by
  intro e
  rw [Nat.add_assoc, h, h']
theorem Reach.one {n : Nat} {l : List Bool} {M : MS} (h : stopR M = false) : Reach n l 1 M (stepR n l M) := by
  intro e
  rw [Nat.add_comm, show runR n l (e + 1) M = if stopR M = true then M else runR n l e (stepR n l M) from rfl, h]
  rfl
theorem Wv.go {n : Nat} {l r : List Bool} {rm : Int} {M : MS} (h : Wv n l r rm M) (hs : M.st < 1000000000) : stopR M = false := by
  have h1 := h.lo
  have h2 := h.hi
  unfold stopR
  rw [h.over, show (M.st == 1000000000) = false from beq_eq_false_iff_ne.2 (by omega), show (M.lo == 1000000000) = false from beq_eq_false_iff_ne.2 (by omega), show (M.hi == 1000000000) = false from beq_eq_false_iff_ne.2 (by omega)]
  rfl
theorem Wv.st1 {n : Nat} {l r : List Bool} {rm : Int} {M : MS} (h : Wv n l r rm M) (hs : M.st < 1000000000) : Wv n l r rm { M with st := M.st + 1 } := by
  have h1 := h.lo
  have h2 := h.hi
  exact ⟨h.inv.st1 (by omega), h.hr, h.room, h.mem, h.nd, by show M.lo ≤ M.st + 1; omega, by show M.hi ≤ M.st + 1; omega, h.h0, h.over⟩
theorem Wv.pop {n : Nat} {l r : List Bool} {rm : Int} {M : MS} (h : Wv n l r rm M) {v : List Int} {b : Bool} (hv : M.v = v ++ [b01 b]) (hret : M.ret = b01 (dec (r.drop v.length) (tabV n l v)))
    (hc : ¬ ((r.getD v.length false != (M.ret == 0)) = true ∧ b = false)) :
    Wv n l r rm (upR n l M) ∧ (upR n l M).v = v ∧ (upR n l M).ret = M.ret ∧ (upR n l M).st = M.st := by
  have hi := h.inv.up (by rw [hret]; cases dec (r.drop v.length) (tabV n l v) <;> decide)
  have hlen : M.v.length - 1 = v.length := by rw [hv]; simp
  have htk : M.v.take (M.v.length - 1) = v := by rw [hlen, hv, List.take_left]
  have hvn : v.length ≤ n := by have := h.inv.v; rw [hv] at this; simp at this; omega
  have hvb : v.all isBit = true := by have := h.inv.vb; rw [hv, List.all_append] at this; simp at this; simpa using this.1
  have hgd : M.v.getD (M.v.length - 1) 0 = b01 b := by
    rw [hlen, hv, getD_lt _ _ _ (by simp), List.getElem_append_right (Nat.le_refl _)]; simp
  have hn := h.inv.hn
  unfold upR at hi ⊢
  rw [if_neg (show ¬ M.v.length = 0 by rw [hv]; simp)] at hi ⊢
  rw [if_neg (show ¬ ((M.r.getD (M.v.length - 1) false != (M.ret == 0)) = true ∧ M.v.getD (M.v.length - 1) 0 = 0) by
    rw [hgd, hlen, h.hr]
    rintro ⟨h1, h2⟩
    refine hc ⟨h1, ?_⟩
    cases b
    · rfl
    · exact absurd h2 (by decide))] at hi ⊢
  rw [htk] at hi ⊢
  by_cases c2 : M.room = 0
  · rw [if_pos c2] at hi ⊢
    exact ⟨⟨hi, h.hr, h.room, h.mem, h.nd, h.lo, h.hi, h.h0, h.over⟩, rfl, rfl, rfl⟩
  rw [if_neg c2] at hi ⊢
  cases hk : look (keyV n l v) M.memo with
  | some q =>
    rw [hk] at hi
    exact ⟨⟨hi, h.hr, h.room, h.mem, h.nd, h.lo, h.hi, h.h0, h.over⟩, rfl, rfl, rfl⟩
  | none =>
    rw [hk] at hi
    have hkn := look_none hk
    have hmem : memT n r (M.memo ++ [(⟨keyV n l v, M.ret⟩ : S86)]) := by
      intro x hx
      rcases List.mem_append.1 hx with hx | hx
      · exact h.mem x hx
      · rw [List.mem_singleton.1 hx]
        refine ⟨n - v.length, tabV n l v, by omega, tabV_len h.inv.hl hvn hvb, rfl, ?_⟩
        rw [show n - (n - v.length) = v.length by omega]
        exact hret
    have hnd : ((M.memo ++ [(⟨keyV n l v, M.ret⟩ : S86)]).map fun s => s.f0).Nodup := by
      rw [List.map_append, List.nodup_append]
      refine ⟨h.nd, by simp, ?_⟩
      intro x hx y hy
      simp only [List.map_cons, List.map_nil, List.mem_singleton] at hy
      rintro rfl
      rw [hy] at hx
      exact hkn hx
    refine ⟨⟨hi, h.hr, h.room, ?_, ?_, h.lo, h.hi, h.h0, h.over⟩, rfl, rfl, rfl⟩
    · dsimp only
      split
      · exact fun x hx => hmem x (List.mem_of_mem_drop hx)
      · exact hmem
    · dsimp only
      split
      · rw [List.map_drop]; exact hnd.sublist (List.drop_sublist _ _)
      · exact hnd
theorem b01_eq0 (b : Bool) : (b01 b == 0) = !b := by cases b <;> rfl
theorem visit {n : Nat} {l r : List Bool} {rm : Int} (hr : r.length = n) : ∀ (m : Nat) (M : MS), M.v.length + m = n → Wv n l r rm M → M.ret = -1 → M.st + 4 * ((2 ^ m : Nat) : Int) ≤ 900000000 →
    ∃ (d : Nat) (M' : MS), d + 3 ≤ 4 * 2 ^ m ∧ Reach n l d M M' ∧ Wv n l r rm M' ∧ M'.v = M.v ∧ M'.ret = b01 (dec (r.drop M.v.length) (tabV n l M.v)) ∧ M'.st = M.st + d := by
  intro m
  induction m with
  | zero =>
    intro M hm h hret hst
    have hlen := tabV_len h.inv.hl (show M.v.length ≤ n by omega) h.inv.vb
    have hg := h.go (by omega)
    have hk := knL_one (l := tabV n l M.v) (by rw [hlen, show n - M.v.length = 0 by omega])
    have e : stepR n l M = { M with st := M.st + 1, ret := knL (tabV n l M.v), lo := M.lo + 1 } := by
      unfold stepR downR
      rw [if_pos (by omega), if_pos hk]
    have hi := h.inv.step hg
    rw [e] at hi
    have h1 := h.lo
    have h2 := h.hi
    refine ⟨1, _, by simp, Reach.one hg, ?_⟩
    rw [e]
    exact ⟨⟨hi, h.hr, h.room, h.mem, h.nd, by show M.lo + 1 ≤ M.st + 1; omega, by show M.hi ≤ M.st + 1; omega, h.h0, h.over⟩, rfl, knL_dec (by rw [hlen, List.length_drop, hr]) hk, rfl⟩
  | succ m ih =>
    intro M hm h hret hst
    have hp := Nat.pow_succ 2 m
    have hp1 : 1 ≤ 2 ^ m := Nat.one_le_two_pow
    have hlen := tabV_len h.inv.hl (show M.v.length ≤ n by omega) h.inv.vb
    have hg := h.go (by omega)
    have hi := h.inv.step hg
    have h1 := h.lo
    have h2 := h.hi
    have hs1 := h.st1 (by omega)
    have er : Reach n l 1 M (stepR n l M) := Reach.one hg
    have es : stepR n l M = downR n l { M with st := M.st + 1 } := by
      unfold stepR
      rw [if_pos (by omega)]
    rw [es] at hi er
    unfold downR at hi er
    dsimp only at hi er
    by_cases c : 0 ≤ knL (tabV n l M.v)
    · rw [if_pos c] at hi er
      refine ⟨1, _, by omega, er, ⟨hi, h.hr, h.room, h.mem, h.nd, ?_, ?_, h.h0, h.over⟩, rfl, knL_dec (by rw [hlen, List.length_drop, hr]) c, rfl⟩
      · show M.lo + 1 ≤ M.st + 1; omega
      · show M.hi ≤ M.st + 1; omega
    rw [if_neg c] at hi er
    cases hk : look (keyV n l M.v) M.memo with
    | some q =>
      rw [hk] at hi er
      refine ⟨1, _, by omega, er, ⟨hi, h.hr, h.room, h.mem, h.nd, ?_, ?_, ?_, h.over⟩, rfl, ?_, rfl⟩
      · show M.lo ≤ M.st + 1; omega
      · show M.hi + 1 ≤ M.st + 1; omega
      · intro h0
        exfalso
        have := h.inv.memo
        rw [h.room, h0] at this
        rw [List.length_eq_zero_iff.1 (show M.memo.length = 0 by omega)] at hk
        cases hk
      · have := look_true h.inv.hn (show n - M.v.length ≤ n by omega) hlen h.mem hk
        rw [show n - (n - M.v.length) = M.v.length by omega] at this
        exact this
    | none =>
      rw [hk] at hi er
      have hvb := h.inv.vb
      have hv1 : M.v.length < n := by omega
      obtain ⟨M0, hM0⟩ : ∃ M0 : MS, M0 = { M with st := M.st + 1, v := M.v ++ [0] } := ⟨_, rfl⟩
      rw [← hM0] at hi er
      have hw0 : Wv n l r rm M0 := by
        have := hs1.lo
        have := hs1.hi
        subst hM0
        exact ⟨hi, h.hr, h.room, h.mem, h.nd, hs1.lo, hs1.hi, h.h0, h.over⟩
      have hv0 : M0.v = M.v ++ [b01 false] := by rw [hM0]; rfl
      have hst0 : M0.st = M.st + 1 := by rw [hM0]
      obtain ⟨d0, M1, hd0, hR0, hw1, hv1', hr1, hs1'⟩ := ih M0 (by rw [hv0]; simp; omega) hw0 (by rw [hM0]; exact hret) (by omega)
      clear hi hM0
      rw [hv0] at hv1' hr1
      rw [tabV_snoc h.inv.hl hv1 hvb, List.length_append, List.length_singleton] at hr1
      -- the row's flag
      have hdrop : r.drop M.v.length = r.getD M.v.length false :: r.drop (M.v.length + 1) := by
        rw [List.drop_eq_getElem_cons (by omega), getD_lt r _ _ (by omega)]
      have hdec : dec (r.drop M.v.length) (tabV n l M.v) = if r.getD M.v.length false then dec (r.drop (M.v.length + 1)) (halfL (tabV n l M.v) false) && dec (r.drop (M.v.length + 1)) (halfL (tabV n l M.v) true) else dec (r.drop (M.v.length + 1)) (halfL (tabV n l M.v) false) || dec (r.drop (M.v.length + 1)) (halfL (tabV n l M.v) true) := by rw [hdrop]; rfl
      have hg1 := hw1.go (by omega)
      have hw1' := hw1.st1 (by omega)
      have er1 : Reach n l 1 M1 (stepR n l M1) := Reach.one hg1
      have es1 : stepR n l M1 = upR n l { M1 with st := M1.st + 1 } := by
        unfold stepR
        rw [if_neg (by rw [hr1]; cases dec (r.drop (M.v.length + 1)) (halfL (tabV n l M.v) false) <;> decide)]
      rw [es1] at er1
      by_cases c3 : (r.getD M.v.length false != (M1.ret == 0)) = true
      · -- the second try
        have eu : upR n l { M1 with st := M1.st + 1 } = { M1 with st := M1.st + 1, v := M.v ++ [b01 true], ret := -1 } := by
          unfold upR
          dsimp only
          rw [if_neg (show ¬ M1.v.length = 0 by rw [hv1']; simp), if_pos (show (M1.r.getD (M1.v.length - 1) false != (M1.ret == 0)) = true ∧ M1.v.getD (M1.v.length - 1) 0 = 0 by
            rw [hw1.hr, hv1']
            simp only [List.length_append, List.length_singleton, Nat.add_sub_cancel]
            refine ⟨c3, ?_⟩
            rw [getD_lt _ _ _ (by simp), List.getElem_append_right (Nat.le_refl _)]; simp [b01])]
          congr 1
          rw [hv1']
          simp [b01]
        rw [eu] at er1
        obtain ⟨M2, hM2⟩ : ∃ M2 : MS, M2 = { M1 with st := M1.st + 1, v := M.v ++ [b01 true], ret := -1 } := ⟨_, rfl⟩
        have hi2 := hw1.inv.step hg1
        rw [es1, eu, ← hM2] at hi2
        rw [← hM2] at er1
        have hw2 : Wv n l r rm M2 := by
          subst hM2
          exact ⟨hi2, hw1.hr, hw1.room, hw1.mem, hw1.nd, hw1'.lo, hw1'.hi, hw1.h0, hw1.over⟩
        have hv2 : M2.v = M.v ++ [b01 true] := by rw [hM2]
        have hst2 : M2.st = M1.st + 1 := by rw [hM2]
        obtain ⟨d1, M3, hd1, hR1, hw3, hv3, hr3, hs3⟩ := ih M2 (by rw [hv2]; simp; omega) hw2 (by rw [hM2]) (by omega)
        rw [hv2] at hv3 hr3
        rw [tabV_snoc h.inv.hl hv1 hvb, List.length_append, List.length_singleton] at hr3
        have hr4 : M3.ret = b01 (dec (r.drop M.v.length) (tabV n l M.v)) := by
          rw [hr3, hdec]
          rw [hr1, b01_eq0] at c3
          revert c3
          cases r.getD M.v.length false <;> cases dec (r.drop (M.v.length + 1)) (halfL (tabV n l M.v) false) <;> simp
        have hg3 := hw3.go (by omega)
        have er3 : Reach n l 1 M3 (stepR n l M3) := Reach.one hg3
        have es3 : stepR n l M3 = upR n l { M3 with st := M3.st + 1 } := by
          unfold stepR
          rw [if_neg (by rw [hr3]; cases dec (r.drop (M.v.length + 1)) (halfL (tabV n l M.v) true) <;> decide)]
        rw [es3] at er3
        obtain ⟨w5, v5, r5, s5⟩ := (hw3.st1 (by omega)).pop (v := M.v) (b := true) hv3 hr4 (fun h => absurd h.2 (by decide))
        refine ⟨1 + d0 + 1 + d1 + 1, _, by omega, ((((er.trans hR0).trans er1).trans hR1).trans er3), w5, v5, r5.trans hr4, ?_⟩
        rw [s5]
        show M3.st + 1 = _
        omega
      · have hr4 : M1.ret = b01 (dec (r.drop M.v.length) (tabV n l M.v)) := by
          rw [hr1, hdec]
          rw [hr1, b01_eq0] at c3
          revert c3
          cases r.getD M.v.length false <;> cases dec (r.drop (M.v.length + 1)) (halfL (tabV n l M.v) false) <;> simp
        obtain ⟨w5, v5, r5, s5⟩ := hw1'.pop (v := M.v) (b := false) hv1' hr4 (fun h => c3 h.1)
        refine ⟨1 + d0 + 1, _, by omega, ((er.trans hR0).trans er1), w5, v5, r5.trans hr4, ?_⟩
        rw [s5]
        show M1.st + 1 = _
        omega
theorem okMemo_of {L : List S86} (h1 : ∀ x ∈ L, x.f1 = 0 ∨ x.f1 = 1) (h2 : (L.map fun s => s.f0).Nodup) : okMemo L := by
  intro i hi
  have e : rd_T86 L (i : Int) = L[i] := by rw [rdS_nat, getD_lt L i _ hi]
  refine ⟨by rw [e]; exact h1 _ (List.getElem_mem _), ?_⟩
  rw [mem_take_key L i (by omega)]
  rintro ⟨j, hj, ej⟩
  rw [rdS_nat, getD_lt L j _ (by omega), e] at ej
  have := List.pairwise_iff_getElem.1 h2 j i (by simp; omega) (by simp; omega) hj
  simp only [List.getElem_map] at this
  exact this ej
theorem memT_size {n : Nat} {r : List Bool} (hn : n ≤ 12) {m : List S86} (h : memT n r m) : ∀ y ∈ m, y.f0.size ≤ maxLen := by
  intro y hy
  obtain ⟨j, t, hj, ht, e, _⟩ := h y hy
  have hp := pow12 (n := j) (by omega)
  have hd := digs12 (n := j) (by omega)
  rw [e]
  unfold keyOf
  rw [tok_ones (by omega) ht, if_pos rfl, Int.toNat_natCast, ones_byts, show (⟨#[58]⟩ : ByteArray) = byts [58] from rfl, byts_append, byts_append, byts_size]
  simp only [List.length_append, List.length_singleton, List.length_map, ht, maxLen]
  omega
theorem run_end {n : Nat} {l r : List Bool} (hn : n ≤ 12) (hl : l.length = 2 ^ n) (hr : r.length = n) {rm : Int} (h0 : 0 ≤ rm ∧ rm ≤ 40) (D : Nat) (hD : 4 * 2 ^ n ≤ D) (hD2 : D ≤ 800000000) :
    ∃ M : MS, runR n l D ⟨r, (n : Int), ones l, rm, [], -1, false, 0, 0, 0, []⟩ = M ∧ MInv n l M ∧ M.r = r ∧ M.room = rm ∧ M.over = true ∧ M.v = [] ∧ M.ret = b01 (dec r l) ∧ M.st ≤ (D : Int) ∧ (rm = 0 → M.hi = 0) ∧ okMemo M.memo ∧ memT n r M.memo := by
  have hw : Wv n l r rm ⟨r, (n : Int), ones l, rm, [], -1, false, 0, 0, 0, []⟩ :=
    ⟨⟨hn, hl, rfl, rfl, hr, by simp, rfl, by show (-1 : Int) ≤ -1 ∧ (-1 : Int) ≤ 1; omega, by show (0 : Int) ≤ 0 ∧ (0 : Int) ≤ 1000000000; omega, by show (0 : Int) ≤ 0 ∧ (0 : Int) ≤ 1000000000; omega, by show (0 : Int) ≤ 0 ∧ (0 : Int) ≤ 1000000000; omega, h0, by show ((0 : Nat) : Int) ≤ rm; omega, fun x hx => (by cases hx)⟩,
     rfl, rfl, fun x hx => (by cases hx), by simp, Int.le_refl _, Int.le_refl _, fun _ => rfl, rfl⟩
  have hp := pow12 hn
  obtain ⟨d, M1, hd, hR, hw1, hv1, hr1, hs1⟩ := visit (rm := rm) hr n _ (by simp) hw rfl (by show (0 : Int) + 4 * ((2 ^ n : Nat) : Int) ≤ 900000000; omega)
  dsimp only at hv1 hr1 hs1
  rw [tabV_nil hl] at hr1
  have hg := hw1.go (by omega)
  obtain ⟨e, he⟩ : ∃ e, D = d + (e + 1) := ⟨D - d - 1, by omega⟩
  have es : stepR n l M1 = { M1 with st := M1.st + 1, over := true } := by
    unfold stepR upR
    rw [if_neg (by rw [hr1]; cases dec (r.drop (List.length ([] : List Int))) l <;> decide), if_pos (by show M1.v.length = 0; rw [hv1]; rfl)]
  have ei := hw1.inv.step hg
  refine ⟨_, rfl, ?_⟩
  have hrun : runR n l D ⟨r, (n : Int), ones l, rm, [], -1, false, 0, 0, 0, []⟩ = { M1 with st := M1.st + 1, over := true } := by
    rw [he, hR (e + 1), show runR n l (e + 1) M1 = if stopR M1 = true then M1 else runR n l e (stepR n l M1) from rfl, hg, es]
    exact runR_stop n l (by unfold stopR; simp) e
  rw [hrun]
  rw [es] at ei
  refine ⟨ei, hw1.hr, hw1.room, rfl, hv1, hr1, ?_, hw1.h0, okMemo_of ei.m01 hw1.nd, hw1.mem⟩
  show M1.st + 1 ≤ (D : Int)
  omega
end Go.Proofs.Ytlpfmhikahlcoaa.Pure
set_option linter.unusedSimpArgs false
set_option linter.unusedVariables false
namespace Go.Proofs.Ytlpfmhikahlcoaa.Pure
open Go.RowKit Go.Proofs.Ytlpfmhikahlcoaa.G Go.Proofs.YtlpfmhikahlcoaaW.PrintWords Go.Proofs.YtlpfmhikahlcoaaW.PrintLast Go.Proofs.YtlpfmhikahlcoaaW.PrintMore
theorem wraps_i64 (n : Int) (h₀ : 0 ≤ n) (h₁ : n < 2 ^ 62) : IntKind.i64.wrap n = n := by rw [IntKind.wrap_i64]; omega
end Go.Proofs.Ytlpfmhikahlcoaa.Pure
set_option linter.unusedSimpArgs false
set_option linter.unusedVariables false
namespace Go.Proofs.Ytlpfmhikahlcoaa.Pure
open Go.RowKit Go.Proofs.Ytlpfmhikahlcoaa.G Go.Proofs.YtlpfmhikahlcoaaW.PrintWords Go.Proofs.YtlpfmhikahlcoaaW.PrintLast Go.Proofs.YtlpfmhikahlcoaaW.PrintMore
theorem and255 (x : Int) : 0 ≤ Go.bits .and .i64 x 255 ∧ Go.bits .and .i64 x 255 ≤ 255 := by
  simp only [Go.bits, BitVec.toNat_and]
  have h : (BitVec.ofInt IntKind.i64.bits x).toNat &&& (BitVec.ofInt IntKind.i64.bits 255).toNat ≤ 255 := Nat.le_trans Nat.and_le_right (by decide)
  rw [wraps_i64 _ (by omega) (by omega)]
  omega
def stOk (b : List Int) (i : Int) : Prop := 0 ≤ i ∧ i ≤ b.length ∧ b.length ≤ 1099511627776
theorem byte_ok {b : List Int} {i : Int} (h : Int) (hi : stOk b i) : ∃ v i' h', spec_l01Byte.f b i h = some (v, i', h') ∧ 0 ≤ v ∧ v ≤ 255 ∧ stOk b i' := by
  unfold spec_l01Byte.f
  obtain ⟨h0, h1, h2⟩ := hi
  by_cases hc : i < (b.length : Int)
  · rw [if_pos hc, if_pos h0]
    exact ⟨_, _, _, rfl, (and255 _).1, (and255 _).2, by rw [w64 (by omega) (by omega)]; exact ⟨by omega, by omega, h2⟩⟩
  · rw [if_neg hc]
    exact ⟨_, _, _, rfl, (and255 _).1, (and255 _).2, h0, h1, h2⟩
theorem below_ok {b : List Int} {i : Int} (h a : Int) (hi : stOk b i) (h0 : 0 < a) (h1 : a ≤ 256) : ∃ v i' h', spec_l01Below.f b i h a = some (v, i', h') ∧ 0 ≤ v ∧ v < a ∧ stOk b i' := by
  unfold spec_l01Below.f
  obtain ⟨v, i', h', e, hv0, hv1, hi'⟩ := byte_ok h hi
  rw [if_neg (by omega), if_pos h1, e, Option.bind_some, if_neg (by omega)]
  refine ⟨_, _, _, rfl, ?_, ?_, hi'⟩
  · simp only; rw [Int.tmod_eq_emod_of_nonneg hv0]; exact Int.emod_nonneg _ (by omega)
  · simp only; rw [Int.tmod_eq_emod_of_nonneg hv0]; exact Int.emod_lt_of_pos _ h0
theorem once_ok {b : List Int} {i : Int} (h a : Int) (hi : stOk b i) (h0 : 0 < a) (h1 : a ≤ 256) : ∃ t i' h', spec_l01Once.f b i h a = some (t, i', h') ∧ stOk b i' := by
  unfold spec_l01Once.f
  obtain ⟨v, i', h', e, _, _, hi'⟩ := below_ok h a hi h0 h1
  rw [e, Option.bind_some]
  exact ⟨_, _, _, rfl, hi'⟩
theorem st_zero {b : List Int} (hb : b.length ≤ 1099511627776) : stOk b 0 := ⟨by omega, by omega, hb⟩
theorem table_fill (n : Int) (b : List Int) (i h : Int) (xs : List Int) (hx : xs.length ≤ 4096) : ∀ k, xs.length < k → spec_l06Table.l1 k n xs 0 b i h = some (n, ones (List.replicate xs.length true), i, h) := by
  intro k hk
  rw [← strOfNums_ones, List.map_replicate]
  have h1 := rounds (fun k j => spec_l06Table.l1 k n ((List.replicate xs.length (sgn true)).take j ++ xs.drop j) (j : Int) b i h) xs.length (n, strOfNums (List.replicate xs.length (sgn true)), i, h) ?_ ?_ k hk
  · simpa using h1
  · intro k j hj
    simp only [spec_l06Table.l1]
    rw [if_pos (by simp; omega), if_pos (by omega), w64s j (by omega), Int.toNat_natCast, show (49 : Int) = sgn true from rfl, set_front (List.replicate xs.length (sgn true)) xs j (sgn true) (by simp) hj (by simp [hj])]
  · intro k
    simp only [spec_l06Table.l1]
    rw [if_neg (by simp), List.take_of_length_le (by simp)]
    simp
theorem bit_sgn {v : Int} (h0 : 0 ≤ v) (h1 : v < 2) : wrap64 (48 + v) % 256 = sgn (v == 1) := by
  rcases (show v = 0 ∨ v = 1 by omega) with h | h <;> subst h <;> decide +kernel
end Go.Proofs.Ytlpfmhikahlcoaa.Pure
set_option linter.unusedSimpArgs false
set_option linter.unusedVariables false
namespace Go.Proofs.Ytlpfmhikahlcoaa.Pure
open Go.RowKit Go.Proofs.Ytlpfmhikahlcoaa.G Go.Proofs.YtlpfmhikahlcoaaW.PrintWords Go.Proofs.YtlpfmhikahlcoaaW.PrintLast Go.Proofs.YtlpfmhikahlcoaaW.PrintMore
theorem pow_cast' (j : Nat) : (2 : Int) ^ j = ((2 ^ j : Nat) : Int) := by norm_cast
theorem new_ev (b : List Int) (hb : b.length ≤ 1099511627776) : ∃ h, Ev (fun k => spec_l01New.f k b) (b, 0, h) := by
  have H : ∀ d (i : Nat) h, i + d = b.length → ∃ h', Ev (fun k => spec_l01New.l0 k b h (i : Int)) (b, 0, h') := by
    intro d
    induction d with
    | zero =>
      intro i h hi
      refine ⟨?w0, ev_succ ?p0⟩
      case p0 =>
        simp only [spec_l01New.l0, if_neg (show ¬ (i : Int) < (b.length : Int) by omega)]
        exact ev_some _
    | succ d ih =>
      intro i h hi
      by_cases h4 : (i : Int) < 4000
      · have hh := fun z => ih (i + 1) z (by omega)
        refine ⟨?w1, ev_succ ?p1⟩
        case p1 =>
          simp only [spec_l01New.l0, if_pos (show (i : Int) < (b.length : Int) by omega), if_pos h4, if_pos (show 0 ≤ (i : Int) by omega), w64s i (show i < 4611686018427387904 by omega)]
          exact (hh _).choose_spec
      · refine ⟨?w2, ev_succ ?p2⟩
        case p2 =>
          simp only [spec_l01New.l0, if_pos (show (i : Int) < (b.length : Int) by omega), if_neg h4]
          exact ev_some _
  exact H b.length 0 _ (by omega)
theorem table_ev (n : Nat) (hn : n ≤ 12) {b : List Int} {i : Int} (h : Int) (hi : stOk b i) : ∃ l i' h', Ev (fun k => spec_l06Table.f k b i h (n : Int)) ((n : Int), ones l, i', h') ∧ l.length = 2 ^ n ∧ stOk b i' := by
  have hp := pow12 hn
  have pw : Ev (fun k => spec_l01Pow2.f k (n : Int)) ((2 ^ n : Nat) : Int) := ev_ge n (fun k hk => by rw [pow2_eq n (by omega) k hk, pow_cast'])
  have H : ∀ d (j : Nat) (acc : List Bool) (m i h : Int), j + d = 2 ^ n → acc.length = j → stOk b i → ∃ l i' h', Ev (fun k => spec_l06Table.l0 k (n : Int) (acc.map sgn) m (j : Int) b i h) ((n : Int), ones l, i', h') ∧ l.length = 2 ^ n ∧ stOk b i' := by
    intro d
    induction d with
    | zero =>
      intro j acc m i h hj ha hi
      obtain ⟨t, i', h', e, hi'⟩ := once_ok h 8 hi (by omega) (by omega)
      cases t
      · refine ⟨acc, i', h', ev_succ ?_, by omega, hi'⟩
        simp only [spec_l06Table.l0]
        refine ev_bind pw ?_
        simp only [if_neg (show ¬ (j : Int) < ((2 ^ n : Nat) : Int) by omega), e, Option.bind_some, Bool.false_eq_true, if_false, strOfNums_ones]
        exact ev_some _
      · refine ⟨List.replicate (acc.map sgn).length true, i', h', ev_succ ?_, by simp; omega, hi'⟩
        simp only [spec_l06Table.l0]
        refine ev_bind pw ?_
        simp only [if_neg (show ¬ (j : Int) < ((2 ^ n : Nat) : Int) by omega), e, Option.bind_some, if_true]
        exact ev_ge _ (table_fill (n : Int) b i' h' (acc.map sgn) (by simp; omega))
    | succ d ih =>
      intro j acc m i h hj ha hi
      have next : ∀ (v : Bool) (i h : Int), stOk b i → ∃ l i' h', Ev (fun k => if (acc.map sgn).length < 140737488355328 then spec_l06Table.l0 k (n : Int) (acc.map sgn ++ [sgn v]) m (wrap64 ((j : Int) + 1)) b i h else none) ((n : Int), ones l, i', h') ∧ l.length = 2 ^ n ∧ stOk b i' := by
        intro v i h hi
        simp only [if_pos (show (acc.map sgn).length < 140737488355328 by simp; omega), w64s j (by omega), show acc.map sgn ++ [sgn v] = (acc ++ [v]).map sgn from by simp]
        exact ih (j + 1) (acc ++ [v]) m i h (by omega) (by simp; omega) hi
      obtain ⟨v, i', h', e, hv0, hv1, hi'⟩ := below_ok h 2 hi (by omega) (by omega)
      have hj0 : (j : Int) < ((2 ^ n : Nat) : Int) := by omega
      by_cases h0 : m = 0
      · have hb2 : 0 ≤ Int.tmod (wrap64 (Int.tdiv (j : Int) 2)) 2 ∧ Int.tmod (wrap64 (Int.tdiv (j : Int) 2)) 2 < 2 := by
          rw [Int.tdiv_eq_ediv_of_nonneg (by omega), w64 (by omega) (by omega), Int.tmod_eq_emod_of_nonneg (by omega)]
          omega
        obtain ⟨l, i2, h2, e2, q⟩ := next (Int.tmod (wrap64 (Int.tdiv (j : Int) 2)) 2 == 1) i' h' hi'
        refine ⟨l, i2, h2, ev_succ ?_, q⟩
        simp only [spec_l06Table.l0]
        refine ev_bind pw ?_
        simp only [if_pos hj0, e, Option.bind_some, if_pos h0, bit_sgn hb2.1 hb2.2]
        exact e2
      by_cases h1 : m = 1
      · obtain ⟨t, i2, h2, e2, hi2⟩ := once_ok h' 2 hi' (by omega) (by omega)
        cases t
        · obtain ⟨l, i3, h3, e3, q⟩ := next (v == 1) i2 h2 hi2
          refine ⟨l, i3, h3, ev_succ ?_, q⟩
          simp only [spec_l06Table.l0]
          refine ev_bind pw ?_
          simp only [if_pos hj0, e, e2, Option.bind_some, if_neg h0, if_pos h1, bit_sgn hv0 hv1, Bool.false_eq_true, if_false]
          exact e3
        · obtain ⟨l, i3, h3, e3, q⟩ := next false i2 h2 hi2
          refine ⟨l, i3, h3, ev_succ ?_, q⟩
          simp only [spec_l06Table.l0]
          refine ev_bind pw ?_
          simp only [if_pos hj0, e, e2, Option.bind_some, if_neg h0, if_pos h1, if_true]
          exact e3
      · obtain ⟨l, i3, h3, e3, q⟩ := next (v == 1) i' h' hi'
        refine ⟨l, i3, h3, ev_succ ?_, q⟩
        simp only [spec_l06Table.l0]
        refine ev_bind pw ?_
        simp only [if_pos hj0, e, Option.bind_some, if_neg h0, if_neg h1, bit_sgn hv0 hv1]
        exact e3
  obtain ⟨m, i', h', e, _, _, hi'⟩ := below_ok h 4 hi (by omega) (by omega)
  obtain ⟨l, i2, h2, e2, q⟩ := H (2 ^ n) 0 [] m i' h' (by omega) rfl hi'
  refine ⟨l, i2, h2, ?_, q⟩
  unfold spec_l06Table.f
  simp only [e, Option.bind_some]
  exact e2
theorem row_ev (n : Nat) (hn : n ≤ 12) {b : List Int} {i : Int} (h : Int) (hi : stOk b i) : ∃ r i' h', Ev (fun k => spec_l08Row.f k b i h (n : Int)) (r, i', h') ∧ r.length = n ∧ stOk b i' := by
  have H : ∀ d (j : Nat) (acc : List Bool) (i h : Int), j + d = n → acc.length = j → stOk b i → ∃ l i' h', Ev (fun k => spec_l08Row.l0 k (n : Int) acc (j : Int) b i h) (l, i', h') ∧ l.length = n ∧ stOk b i' := by
    intro d
    induction d with
    | zero =>
      intro j acc i h hj ha hi
      refine ⟨acc, i, h, ev_succ ?_, by omega, hi⟩
      simp only [spec_l08Row.l0, if_neg (show ¬ (j : Int) < (n : Int) by omega)]
      exact ev_some _
    | succ d ih =>
      intro j acc i h hj ha hi
      obtain ⟨t, i', h', e, hi'⟩ := once_ok h 2 hi (by omega) (by omega)
      obtain ⟨l, i2, h2, e2, q⟩ := ih (j + 1) (acc ++ [t]) i' h' (by omega) (by simp; omega) hi'
      refine ⟨l, i2, h2, ev_succ ?_, q⟩
      simp only [spec_l08Row.l0, if_pos (show (j : Int) < (n : Int) by omega), e, Option.bind_some, if_pos (show acc.length < 140737488355328 by omega), w64s j (show j < 4611686018427387904 by omega)]
      exact e2
  unfold spec_l08Row.f
  exact H n 0 [] i h (by omega) rfl hi
theorem drawCase_ev (b : List Int) (hb : b.length ≤ 1099511627776) : ∃ r n l, Ev (fun k => spec_DrawCase.f k b) (r, ((n : Nat) : Int), ones l) ∧ n ≤ 6 ∧ r.length = n ∧ l.length = 2 ^ n := by
  unfold spec_DrawCase.f
  obtain ⟨h, e⟩ := new_ev b hb
  obtain ⟨n, i1, h1, e1, hn0, hn1, hi1⟩ := below_ok h 7 (st_zero hb) (by omega) (by omega)
  obtain ⟨n, rfl⟩ := Int.eq_ofNat_of_zero_le hn0
  obtain ⟨r, i2, h2, e2, hr, hi2⟩ := row_ev n (by omega) h1 hi1
  obtain ⟨l, i3, h3, e3, hl, _⟩ := table_ev n (by omega) h2 hi2
  refine ⟨r, n, l, ?_, by omega, hr, hl⟩
  refine ev_bind e ?_
  simp only [e1, Option.bind_some]
  refine ev_bind e2 ?_
  refine ev_bind e3 ?_
  exact ev_some _
end Go.Proofs.Ytlpfmhikahlcoaa.Pure
set_option linter.unusedSimpArgs false
set_option linter.unusedVariables false
namespace Go.Proofs.Ytlpfmhikahlcoaa.Pure
open Go.RowKit Go.Proofs.Ytlpfmhikahlcoaa.G Go.Proofs.YtlpfmhikahlcoaaW.PrintWords Go.Proofs.YtlpfmhikahlcoaaW.PrintLast Go.Proofs.YtlpfmhikahlcoaaW.PrintMore
theorem start_ev {n : Nat} {l r : List Bool} (hn : n ≤ 12) (hl : l.length = 2 ^ n) (hr : r.length = n) {rm : Int} (h0 : 0 ≤ rm ∧ rm ≤ 40) : Ev (fun k => impl_MachineStart.f k r (n : Int) (ones l) rm) (r, (n : Int), ones l, rm, [], -1, false, 0, 0, 0, [], true) := by
  have hp := pow12 hn
  refine ev_ge ((ones l).size + 20) fun k hk => ?_
  unfold impl_MachineStart.f impl_rowed.f impl_within.f
  rw [impl_TableOk_eq _ _ (by rw [ones_size]; omega) k hk, Option.bind_some, tok_ones hn hl, if_pos rfl, Option.bind_some, show ((r.length : Int) == (n : Int)) = true from by simp; omega, if_pos rfl, if_pos h0.1, Option.bind_some, if_pos (by simpa using h0.2), if_pos (by simp; omega), List.nil_append]
theorem mOk_of {n : Nat} {l : List Bool} {M : MS} (h : MInv n l M) (ho : M.over = true → 0 ≤ M.ret ∧ M.v = []) (hm : okMemo M.memo) : mOkB M.r M.N M.s M.room M.v M.ret M.over M.st M.lo M.hi M.memo = true := by
  have h1 := h.r
  have h2 := h.v
  have h3 := h.room
  have h4 := h.memo
  have h5 := h.ret
  have h6 := h.st
  have h7 := h.lo
  have h8 := h.hi
  unfold mOkB okFront okRet okCounts
  rw [h.N, h.s, tok_ones h.hn h.hl, h.vb, decide_eq_true hm]
  cases hover : M.over with
  | false => simp; omega
  | true =>
    obtain ⟨a, b⟩ := ho hover
    rw [b]
    simp
    omega
theorem pow_ev (n : Nat) (hn : n ≤ 60) : Ev (fun k => laws_pow.f k (n : Int)) ((2 : Int) ^ n) := by
  have h : ∀ i, i ≤ n → Ev (fun k => laws_pow.l0 k (n : Int) ((2 : Int) ^ i) (i : Int)) ((2 : Int) ^ n) := by
    refine ev_loop (fun k i => laws_pow.l0 k (n : Int) ((2 : Int) ^ i) (i : Int)) n _ (fun i hi e => ?_) ?_
    · have h62 := pow62 (n := i) (by omega)
      have h1 := pow_pos_ i
      refine ev_succ ?_
      simp only [laws_pow.l0, if_pos (show (i : Int) < (n : Int) by omega), w64s i (show i < 4611686018427387904 by omega), w64 (n := 2 * (2 : Int) ^ i) (by omega) (by omega)]
      rw [Int.pow_succ, Int.mul_comm] at e
      exact e
    · refine ev_succ ?_
      simp only [laws_pow.l0, if_neg (show ¬ (n : Int) < (n : Int) by omega)]
      exact ev_some _
  exact h 0 (by omega)
theorem run_start {n : Nat} {l r : List Bool} (hn : n ≤ 6) (hl : l.length = 2 ^ n) (hr : r.length = n) {rm : Int} (h0 : 0 ≤ rm ∧ rm ≤ 40) :
    ∃ M : MS, Ev (fun k => impl_MachineRun.f k r (n : Int) (ones l) rm [] (-1) false 0 0 0 [] ((3 * 2 ^ (n + 1) + 2 : Nat) : Int)) (M.r, M.N, M.s, M.room, M.v, M.ret, M.over, M.st, M.lo, M.hi, M.memo) ∧
      mOkB M.r M.N M.s M.room M.v M.ret M.over M.st M.lo M.hi M.memo = true ∧ M.s = ones l ∧ M.v = [] ∧ M.over = true ∧ M.ret = b01 (dec r l) ∧ (M.memo.length : Int) ≤ rm ∧ M.st ≤ ((3 * 2 ^ (n + 1) + 2 : Nat) : Int) ∧ (rm = 0 → M.hi = 0) ∧
      ∀ y ∈ M.memo, y.f0.size ≤ maxLen := by
  have hp : 2 ^ n ≤ 2 ^ 6 := Nat.pow_le_pow_right (by decide) hn
  have hp2 := Nat.pow_succ 2 n
  have hi0 : MInv n l ⟨r, (n : Int), ones l, rm, [], -1, false, 0, 0, 0, []⟩ :=
    ⟨by omega, hl, rfl, rfl, hr, by simp, rfl, by show (-1 : Int) ≤ -1 ∧ (-1 : Int) ≤ 1; omega, by show (0 : Int) ≤ 0 ∧ (0 : Int) ≤ 1000000000; omega, by show (0 : Int) ≤ 0 ∧ (0 : Int) ≤ 1000000000; omega, by show (0 : Int) ≤ 0 ∧ (0 : Int) ≤ 1000000000; omega, h0, by show ((0 : Nat) : Int) ≤ rm; omega, fun x hx => by cases hx⟩
  obtain ⟨M, hrun, hi, e1, e2, e3, e4, e5, e6, e7, e8, e9⟩ := run_end (by omega) hl hr h0 (3 * 2 ^ (n + 1) + 2) (by omega) (by omega)
  have hv := hi.v
  have hmm := hi.memo
  rw [e2] at hmm
  refine ⟨M, ?_, mOk_of hi (fun _ => ⟨by rw [e5]; cases dec r l <;> decide, e4⟩) e8, hi.s, e4, e3, e5, hmm, e6, e7, memT_size (by omega) e9⟩
  have hok := impl_MachineOk_ev r (n : Int) (ones l) rm [] (-1) false 0 0 0 [] (by rw [ones_size]; omega) (by simp) (fun y hy => by cases hy)
  rw [show mOkB r (n : Int) (ones l) rm [] (-1) false 0 0 0 [] = true from mOk_of hi0 (fun h => by cases h) (fun i hi => by cases hi)] at hok
  unfold impl_MachineRun.f impl_within.f
  simp only [if_pos (show r.length < 140737488355328 ∧ ([] : List Int).length < 17592186044416 ∧ ([] : List S86).length < 5864062014805 from ⟨by omega, by simp, by simp⟩), if_pos (show ((3 * 2 ^ (n + 1) + 2 : Nat) : Int) ≥ 0 by omega), Option.bind_some, decide_eq_true (show ((3 * 2 ^ (n + 1) + 2 : Nat) : Int) ≤ 100000 by omega), if_true]
  refine ev_bind hok ?_
  simp only [if_true]
  refine ev_bind (a := M) ?_ ?_
  · rw [← hrun]
    exact impl_run_ev _ (by omega) _ 0 _ (by omega) hi0
  · simp only [if_pos (show M.r.length < 140737488355328 ∧ M.v.length < 17592186044416 ∧ M.memo.length < 5864062014805 from ⟨by rw [e1]; omega, by omega, by omega⟩)]
    exact ev_some _
theorem FnMachine_pure : ∀ (l0 : List Int), (l0.length ≤ maxLen ∧ ∀ x_ ∈ l0, (Lit.int .u8 x_).wf = true) → ∃ k, laws_FnMachine.f k l0 = some true := by
  intro b _
  refine ev_rounds ?_
  unfold laws_FnMachine.f laws_big.f
  by_cases hb : (b.length : Int) > 1048576
  · simp only [Option.bind_some, if_pos (show (decide ((b.length : Int) > 1048576)) = true from decide_eq_true hb)]
    exact ev_some _
  simp only [Option.bind_some, if_neg (show ¬ (decide ((b.length : Int) > 1048576)) = true by rw [decide_eq_false hb]; decide)]
  obtain ⟨r, n, l, ed, hn, hr, hl⟩ := drawCase_ev b (by omega)
  have hp : 2 ^ n ≤ 2 ^ 6 := Nat.pow_le_pow_right (by decide) hn
  have hp2 := Nat.pow_succ 2 n
  refine ev_bind ed ?_
  have e1 : decT r (n : Int) (ones l) = (b01 (dec r l), true) := by
    unfold decT
    rw [tok_ones (by omega) hl, show ((r.length : Int) == (n : Int)) = true from by simp; omega, flags_ones]
    rfl
  have es := ev_ge _ (spec_Decide_eq r (n : Int) (ones l) (by rw [ones_size]; omega))
  rw [e1] at es
  refine ev_bind es ?_
  show Ev (fun k => laws_FnMachine.l0 k r (b01 (dec r l)) [0, 1, 5, 40] ((4 : Nat) : Int) 0 (n : Int) (ones l)) true
  have hpw := pow_ev (n + 1) (by omega)
  have hc : ((2 ^ (n + 1) : Nat) : Int) = (2 : Int) ^ (n + 1) := by norm_cast
  have hq : wrap64 (wrap64 (3 * (2 : Int) ^ (n + 1)) + 2) = ((3 * 2 ^ (n + 1) + 2 : Nat) : Int) := by
    rw [← hc, w64 (n := 3 * ((2 ^ (n + 1) : Nat) : Int)) (by omega) (by omega), w64 (by omega) (by omega)]
    omega
  have hn1 : wrap64 ((n : Int) + 1) = ((n + 1 : Nat) : Int) := w64s n (by omega)
  have main : ∀ i : Nat, i ≤ 4 → Ev (fun k => laws_FnMachine.l0 k r (b01 (dec r l)) [0, 1, 5, 40] ((4 : Nat) : Int) (i : Int) (n : Int) (ones l)) true := by
    refine ev_loop (fun k i => laws_FnMachine.l0 k r (b01 (dec r l)) [0, 1, 5, 40] ((4 : Nat) : Int) (i : Int) (n : Int) (ones l)) 4 _ (fun i hi e => ?_) ?_
    · have h0 : 0 ≤ rd [0, 1, 5, 40] (i : Int) ∧ rd [0, 1, 5, 40] (i : Int) ≤ 40 := by
        rw [rd_nat]
        match i, hi with
        | 0, _ => decide
        | 1, _ => decide
        | 2, _ => decide
        | 3, _ => decide
      generalize hrm : rd [0, 1, 5, 40] (i : Int) = rm at h0
      refine ev_succ ?_
      simp only [laws_FnMachine.l0, if_pos (show (i : Int) < ((4 : Nat) : Int) by omega), if_pos (show 0 ≤ (i : Int) by omega), if_pos (show (i : Int) < (([0, 1, 5, 40] : List Int).length : Int) by simp; omega), hrm, w64s i (show i < 4611686018427387904 by omega)]
      refine ev_bind (start_ev (by omega) hl hr h0) ?_
      simp only [if_true]
      have hi0 : MInv n l ⟨r, (n : Int), ones l, rm, [], -1, false, 0, 0, 0, []⟩ :=
        ⟨by omega, hl, rfl, rfl, hr, by simp, rfl, by show (-1 : Int) ≤ -1 ∧ (-1 : Int) ≤ 1; omega, by show (0 : Int) ≤ 0 ∧ (0 : Int) ≤ 1000000000; omega, by show (0 : Int) ≤ 0 ∧ (0 : Int) ≤ 1000000000; omega, by show (0 : Int) ≤ 0 ∧ (0 : Int) ≤ 1000000000; omega, h0, by show ((0 : Nat) : Int) ≤ rm; omega, fun x hx => by cases hx⟩
      have hok := impl_MachineOk_ev r (n : Int) (ones l) rm [] (-1) false 0 0 0 [] (by rw [ones_size]; omega) (by simp) (fun y hy => by cases hy)
      rw [show mOkB r (n : Int) (ones l) rm [] (-1) false 0 0 0 [] = true from mOk_of hi0 (fun h => by cases h) (fun i hi => by cases hi)] at hok
      refine ev_bind hok ?_
      simp only [Bool.not_true]
      refine ev_succ ?_
      simp only [laws_FnMachine.j1, Bool.false_eq_true, if_false, hn1, w64s i (show i < 4611686018427387904 by omega)]
      refine ev_bind hpw ?_
      simp only [hq]
      obtain ⟨M, eM, m1, m2, m3, m4, m5, m6, m7, m8, m9⟩ := run_start hn hl hr h0
      refine ev_bind eM ?_
      have ev : Ev (fun k => impl_MachineVerdict.f k M.r M.N M.s M.room M.v M.ret M.over M.st M.lo M.hi M.memo) (b01 (dec r l), true) := by
        unfold impl_MachineVerdict.f
        have := impl_MachineOk_ev M.r M.N M.s M.room M.v M.ret M.over M.st M.lo M.hi M.memo (by rw [m2, ones_size]; omega) (by rw [m3]; simp) m9
        rw [m1] at this
        refine ev_bind this ?_
        simp only [if_true, m4, m5]
        exact ev_some _
      refine ev_bind ev ?_
      simp only [if_true, if_neg (show ¬ ((M.memo.length : Int) > rm) by omega)]
      refine ev_bind hpw ?_
      simp only [hq, if_neg (show ¬ (M.st > ((3 * 2 ^ (n + 1) + 2 : Nat) : Int)) by omega)]
      by_cases hz : rm = 0
      · simp only [if_pos hz, if_pos (m8 hz)]
        exact e
      · simp only [if_neg hz]
        exact e
    · refine ev_succ ?_
      simp only [laws_FnMachine.l0, if_neg (show ¬ ((4 : Nat) : Int) < ((4 : Nat) : Int) by omega)]
      exact ev_some _
  exact main 0 (by omega)
end Go.Proofs.Ytlpfmhikahlcoaa.Pure
namespace Go.Proofs.Ytlpfmhikahlcoaa.Open
open Go.Deep Go.ChangeShapes Go.WideShapes Go.RowKit Go.Proofs.YtlpfmhikahlcoaaW.PrintWords
def Opens {α : Type} (P : Program) (t : TypeId) (d : Kd α) (ok : α → Prop) : Prop :=
  ∀ (H : Type) (enc : TypeId × Value → H) (w : World) (base : Nat) (spare : Nat → Bool) (held : Bool) (fuel : Nat) (cs : List Value) (x : DataW H × List MemPlace),
    DataW.trod enc P w base spare held fuel t cs = some x → ∃ a, d.K w a cs ∧ ok a
theorem opens_int {P : Program} {t : TypeId} {k : IntKind} (hu : P.underlying t = some (.int k)) : Opens P t (Kd.int k) (fun a => (Lit.int k a).wf = true) := by
  intro H enc w base spare held fuel cs x h
  obtain ⟨n, rfl, _, hw⟩ := DataW.trod_int hu h
  exact ⟨n, rfl, hw⟩
theorem list_of {α : Type} {p : Nat → α → Prop} : ∀ n, (∀ i, i < n → ∃ a, p i a) → ∃ l : List α, l.length = n ∧ ∀ i a, l[i]? = some a → p i a
  | 0, _ => ⟨[], rfl, fun i a h => by simp at h⟩
  | n + 1, h => by
    obtain ⟨l, hl, hp⟩ := list_of n (fun i hi => h i (by omega))
    obtain ⟨a, ha⟩ := h n (by omega)
    refine ⟨l ++ [a], by simp [hl], fun i b hb => ?_⟩
    rw [List.getElem?_append] at hb
    split at hb
    · exact hp i b hb
    · rename_i hi
      have e : i = n := by
        rcases Nat.lt_or_ge (i - l.length) 1 with h1 | h1
        · omega
        · rw [List.getElem?_eq_none (by simpa using h1)] at hb
          cases hb
      subst e
      rw [hl, Nat.sub_self] at hb
      cases hb
      exact ha
theorem opens_slice {α : Type} {P : Program} {t e : TypeId} {d : Kd α} {ok : α → Prop} (hu : P.underlying t = some (.slice e)) (hc : P.cellsOf e = d.sz) (h : Opens P e d ok) :
    Opens P t (Kd.slice e d) (fun l => l.length ≤ maxLen ∧ ∀ x ∈ l, ok x) := by
  intro H enc w base spare held fuel cs x hx
  rcases open_slice hu hx with ⟨rfl, rfl⟩ | ⟨a, len, cap, m, n, D, Pl, rfl, hb, hl, hm, hmm, rfl, hel⟩
  · exact ⟨[], ⟨none, 0, rfl, Nat.le_refl _, rfl, by simp, fun h => absurd h (by simp)⟩, by simp [maxLen], by simp⟩
  · have hle : len ≤ m := by rw [hmm]; split <;> omega
    have hone : ∀ i, i < len → ∃ y : α, (∃ cs', w.cells? base (a.add (i * P.cellsOf e)) (P.cellsOf e) = some cs' ∧ d.K w y cs') ∧ ok y := by
      intro i hi
      obtain ⟨cs', h1, h2⟩ := hel i (by omega)
      obtain ⟨y, hk, ho⟩ := h H enc w base spare held n cs' _ h2
      exact ⟨y, ⟨cs', h1, hk⟩, ho⟩
    obtain ⟨l, hll, hp⟩ := list_of len hone
    subst hll
    refine ⟨l, ⟨some a, cap, rfl, hl, rfl, by simp only [maxLen] at hm; omega, fun _ => ⟨a, rfl, fun j p hj => ?_⟩⟩, by omega, ?_⟩
    · obtain ⟨⟨cs', h1, hk⟩, _⟩ := hp j p hj
      refine ⟨cs', d.K_len hk, hk, fun i u hu => ?_⟩
      have hlt : i < cs'.length := by
        rcases Nat.lt_or_ge i cs'.length with h' | h'
        · exact h'
        · rw [List.getElem?_eq_none h'] at hu; cases hu
      have hlen := d.K_len hk
      obtain ⟨_, hlen2, hcell⟩ := World.cells?_some h1
      rw [hc] at hcell
      have := hcell i (by omega)
      rw [hu] at this
      rw [← Addr.add_add]
      exact this.symm ▸ rfl
    · intro x hx
      obtain ⟨i, hi, rfl⟩ := List.getElem_of_mem hx
      exact (hp i _ (List.getElem?_eq_getElem hi)).2
end Go.Proofs.Ytlpfmhikahlcoaa.Open
/- The statement FnMachineSaid of the law FnMachine: for every input the call returns true and its arguments read as before. Conditions: none. (Written by a program of this session: wip/gen/row.py.) -/
namespace Go.Proofs.Ytlpfmhikahlcoaa.fnMachine
open Go.ChangeShapes Go.WideShapes Go.ChangeAt Go.RowKit Go.Proofs.Ytlpfmhikahlcoaa.Open Go.Proofs.Ytlpfmhikahlcoaa.G Go.Proofs.YtlpfmhikahlcoaaW.PrintWords
open Go.ChangeMaps (open_string shut_string)
set_option linter.unusedVariables false
theorem own : ownKnob Try.prog.godebug = none := by kernel_rfl
theorem laidOut : laidOutB Try.prog = true := by kernel_rfl
set_option maxRecDepth 100000 in
theorem lifted (os : Os) (started : os.Started) (H : Type) (enc : TypeId × Value → H) :
    ReturnsInHanded {} Try.checked os 11 .any (Rows.fnMachineSpec.pre6 enc Try.prog Try.f11 Rows.fnMachineRow.domain false) (Rows.fnMachineSpec.post enc Try.prog Try.f11 false true false false) := by
  refine returnsInHanded_of_change (C := Try.checked) own started (by kernel_rfl) Try.func11
    (ChangeSpec.witness6 (enc := enc) (C := Try.checked) false ⟨#[], #[.slice none 0 0], []⟩ 8 (by kernel_rfl) (by kernel_rfl) (by kernel_rfl) (by kernel_rfl)) ?_
  intro W base args ds gs before hval0 hW hcnd _
  have hval : ∀ (j : Nat) t v, Try.f11.params[j]? = some t → args[j]? = some v → Value.okWide Try.prog W .any base t v := hval0
  have hW' := hW
  obtain ⟨p, q, hA0, hV, rfl, hfz, hnd⟩ := hW
  have hA : DataW.TrodAll enc Try.prog W 0 (fun _ => true) true Try.f11.params.toList args.toList ds p := hA0
  rw [Try.params11] at hA hval
  obtain ⟨v0, vs0, d0, ds0, p0, q0, hargs, rfl, rfl, h0, r0⟩ := trodAll_cons hA
  obtain ⟨rfl, rfl, rfl⟩ := trodAll_nil r0
  obtain rfl : args = #[v0] := by cases args; simp_all
  obtain ⟨rfl, rfl⟩ := trodVars_none hV
  have k0 := h0
  have lt0 : ∀ x ∈ p0, x.block < W.heap.size := by obtain ⟨m, hm⟩ := k0; exact DataW.trod_lt m _ _ _ hm
  obtain ⟨fu0, hf0⟩ := h0
  obtain ⟨a0, len0, cap0, rfl⟩ := okWide_slice Try.underlying57 (hval 0 57 v0 rfl rfl)
  obtain ⟨l0, hk0, ok0⟩ := (opens_slice (d := (Kd.int .u8)) Try.underlying57 (by kernel_rfl) (opens_int Try.underlying5)) _ enc W 0 _ true fu0 _ _ hf0
  obtain ⟨A0, c0, hcs0, hc0, hr0⟩ := hk0
  simp [Value.cells] at hcs0
  obtain ⟨rfl, rfl, rfl⟩ := hcs0
  clear hA0 hval0
  obtain ⟨k, hk⟩ := Pure.FnMachine_pure l0 ok0
  refine (laws_FnMachine.calls k _ _ l0 true W hr0 hc0 rfl hk).mono fun e W' ⟨he, bel0⟩ => ?_
  have bel : Below W.heap.size W W' := bel0
  subst he
  exact ⟨_, rfl, _, _, _, [], _, [], hW', trodAll_mk1 (shut_bool Try.underlying4 _), (trodAll_cons_mk (Below.trod laidOut (by kernel_rfl) (of_decide_eq_true (by kernel_rfl)) k0 bel lt0) trodAll_mk0), rfl, bel.frame _, fun h => by cases h⟩
theorem over : Rows.fnMachineRow.holds Try.pinned (OpenSpec.ofChange Rows.fnMachineSpec) :=
  OpenClaim.holds_of_wide 11 Try.f11 rfl rfl rfl rfl rfl rfl rfl ⟨rfl, rfl, rfl, rfl, rfl⟩ rfl rfl rfl rfl rfl (by kernel_rfl) Try.func11 (by kernel_rfl)
    (of_decide_eq_true (by kernel_rfl)) (by unfold Func.isWrapper; first | (rw [if_pos (by decide +kernel)]; kernel_rfl) | (rw [if_neg (by decide +kernel)]; exact ⟨rfl, rfl⟩))
    (fun os started H enc _ => lifted os started H enc)
theorem proved : Rows.FnMachineSaid := over
end Go.Proofs.Ytlpfmhikahlcoaa.fnMachine
namespace Go.Proofs.Ytlpfmhikahlcoaa
/-- The given statement. -/
theorem fnMachine_holds : Rows.FnMachineSaid := fnMachine.proved
#print axioms fnMachine_holds
end Go.Proofs.Ytlpfmhikahlcoaa
