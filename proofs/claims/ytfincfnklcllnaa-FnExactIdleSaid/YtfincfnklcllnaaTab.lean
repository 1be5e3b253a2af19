/- Tables as lists of flags: what the program and the reference take for a right table. Conditions: each lemma's own hypotheses. -/
import Derived.Test.YtfincfnklcllnaaHelp
import Derived.Laws.BitsLemmas
import Derived.Test.YtfincfnklcllnaaGimplTableOk
import Derived.Test.YtfincfnklcllnaaGimplwithin
import Derived.Test.YtfincfnklcllnaaGspecTableOk
import Derived.Test.YtfincfnklcllnaaGspecl01In
import Derived.Test.YtfincfnklcllnaaGspecl01Pow2
set_option linter.unusedSimpArgs false
set_option linter.unusedVariables false
namespace Go.Proofs.Ytfincfnklcllnaa.Pure
open Go.RowKit Go.Proofs.Ytfincfnklcllnaa.G Go.Proofs.YtfincfnklcllnaaW.PrintWords Go.Proofs.YtfincfnklcllnaaW.PrintLast Go.Proofs.YtfincfnklcllnaaW.PrintMore

/-- A search over rounds: it ends at the first round that fails. -/
theorem rounds_all {R : Type} (L : Nat → Nat → Option R) (n : Nat) (p : Nat → Bool) (r bad : R) (step : ∀ k i, i < n → p i = true → L (k + 1) i = L k (i + 1)) (exit : ∀ k i, i < n → p i = false → L (k + 1) i = some bad)
    (stop : ∀ k, L (k + 1) n = some r) : ∀ k, n < k → L k 0 = some (if (List.range n).all p then r else bad) := by
  have h : ∀ d i k, i + d = n → d < k → ((∀ j, i ≤ j → j < n → p j = true) → L k i = some r) ∧ ((∃ j, i ≤ j ∧ j < n ∧ p j = false) → L k i = some bad) := by
    intro d
    induction d with
    | zero =>
      intro i k hi hk
      obtain ⟨k, rfl⟩ : ∃ m, k = m + 1 := ⟨k - 1, by omega⟩
      obtain rfl : i = n := by omega
      exact ⟨fun _ => stop k, fun ⟨j, h1, h2, _⟩ => by omega⟩
    | succ d ih =>
      intro i k hi hk
      obtain ⟨k, rfl⟩ : ∃ m, k = m + 1 := ⟨k - 1, by omega⟩
      cases hp : p i with
      | true =>
        rw [step k i (by omega) hp]
        obtain ⟨h1, h2⟩ := ih (i + 1) k (by omega) (by omega)
        refine ⟨fun h => h1 (fun j hj => h j (by omega)), fun ⟨j, hj, hn, hf⟩ => h2 ⟨j, ?_, hn, hf⟩⟩
        rcases Nat.eq_or_lt_of_le hj with e | e
        · subst e; rw [hp] at hf; cases hf
        · exact e
      | false =>
        rw [exit k i (by omega) hp]
        exact ⟨fun h => absurd (h i (Nat.le_refl _) (by omega)) (by rw [hp]; decide), fun _ => rfl⟩
  intro k hk
  obtain ⟨h1, h2⟩ := h n 0 k (by omega) hk
  cases ha : (List.range n).all p with
  | true => rw [if_pos rfl]; exact h1 fun j _ hj => List.all_eq_true.1 ha j (by simpa using hj)
  | false =>
    rw [if_neg (by simp)]
    obtain ⟨j, hj, hf⟩ := List.all_eq_false.1 ha
    exact h2 ⟨j, Nat.zero_le _, by simpa using hj, by simpa using hf⟩

/-! ### tables -/
def sgn (b : Bool) : Int := if b then 49 else 48
def ones (l : List Bool) : ByteArray := ⟨(l.map fun b => if b then (49 : UInt8) else 48).toArray⟩
theorem ones_size (l : List Bool) : (ones l).size = l.length := by
  show (l.map fun b => if b then (49 : UInt8) else 48).toArray.size = _
  simp
theorem bt_ones (l : List Bool) (i : Nat) (h : i < l.length) : bt (ones l) (i : Int) = sgn (l.getD i false) := by
  have hs : i < (ones l).size := by rw [ones_size]; exact h
  rw [bt_nat _ i hs, getD_lt l i false h]
  have e : (ones l)[i] = if l[i] then (49 : UInt8) else 48 := by
    have h1 : (ones l).data.toList[i]? = some (ones l)[i] := by
      rw [List.getElem?_eq_getElem (by simpa using hs)]
      rfl
    have h2 : (ones l).data.toList[i]? = some (if l[i] then (49 : UInt8) else 48) := by simp [ones, h]
    exact Option.some.inj (h1.symm.trans h2)
  rw [e]
  unfold sgn
  cases l[i] <;> rfl
theorem ones_inj {a b : List Bool} (h : ones a = ones b) : a = b := by
  unfold ones at h
  injection h with h
  have h2 : (a.map fun b => if b then (49 : UInt8) else 48) = b.map fun b => if b then (49 : UInt8) else 48 := by simpa using congrArg Array.toList h
  exact List.map_inj_right (fun x y hxy => by revert hxy; cases x <;> cases y <;> decide) |>.1 h2
theorem data_inj {a b : ByteArray} (h : a.data.toList = b.data.toList) : a = b := by
  cases a; cases b
  simp only [ByteArray.mk.injEq]
  exact Array.toList_inj.1 h
theorem toList_inj {a b : ByteArray} : a.toList = b.toList ↔ a = b := by
  rw [toList_data, toList_data]
  exact ⟨data_inj, fun h => h ▸ rfl⟩
theorem strOfNums_ones (l : List Bool) : strOfNums (l.map sgn) = ones l := by
  unfold strOfNums ones
  congr 2
  rw [List.map_map]
  refine List.map_congr_left fun b _ => ?_
  cases b <;> rfl
def tok (N : Int) (s : ByteArray) : Bool := decide (0 ≤ N ∧ N ≤ 12 ∧ (s.size : Int) = 2 ^ N.toNat) && (List.range s.size).all fun (i : Nat) => bt s (i : Int) == 48 || bt s (i : Int) == 49
theorem tok_form {N : Int} {s : ByteArray} (h : tok N s = true) : ∃ (n : Nat) (l : List Bool), N = (n : Int) ∧ n ≤ 12 ∧ l.length = 2 ^ n ∧ s = ones l := by
  unfold tok at h
  simp only [Bool.and_eq_true, decide_eq_true_eq] at h
  obtain ⟨⟨h0, h1, h2⟩, h3⟩ := h
  obtain ⟨n, rfl⟩ := Int.eq_ofNat_of_zero_le h0
  have h2' : s.size = 2 ^ n := by
    rw [Int.toNat_natCast] at h2
    exact_mod_cast h2
  refine ⟨n, (List.range s.size).map fun (i : Nat) => decide (bt s (i : Int) = 49), rfl, by omega, by simp [h2'], ?_⟩
  apply data_inj
  apply List.ext_getElem?
  intro i
  rcases Nat.lt_or_ge i s.size with hi | hi
  · have hb := List.all_eq_true.1 h3 i (by simpa using hi)
    have e : s.data.toList[i]? = some s[i] := by
      rw [List.getElem?_eq_getElem (by simpa using hi)]
      rfl
    rw [e]
    have hv := bt_nat s i hi
    simp only [ones, List.map_map, List.getElem?_map, List.getElem?_range hi, Option.map_some, Function.comp]
    congr 1
    simp only [Bool.or_eq_true, beq_iff_eq] at hb
    have hd : ∀ c : UInt8, ((c.toNat : Int) = 48 → c = 48) ∧ ((c.toNat : Int) = 49 → c = 49) := fun c => ⟨fun h => UInt8.toNat_inj.1 (by have : c.toNat = 48 := by omega
                                                                                                                                         rw [this]; rfl), fun h => UInt8.toNat_inj.1 (by have : c.toNat = 49 := by omega
                                                                                                                                                                                         rw [this]; rfl)⟩
    rcases hb with hb | hb
    · have hc := (hd s[i]).1 (hv ▸ hb)
      simp [hb, hc]
    · have hc := (hd s[i]).2 (hv ▸ hb)
      simp [hb, hc]
  · rw [List.getElem?_eq_none (by simpa using hi), List.getElem?_eq_none (by simp [ones]; exact hi)]
theorem tok_ones {n : Nat} {l : List Bool} (hn : n ≤ 12) (hl : l.length = 2 ^ n) : tok (n : Int) (ones l) = true := by
  unfold tok
  rw [Bool.and_eq_true]
  refine ⟨decide_eq_true ⟨by omega, by omega, ?_⟩, List.all_eq_true.2 fun i hi => ?_⟩
  · rw [ones_size, hl, Int.toNat_natCast]
    norm_cast
  · have hi' : i < l.length := by rw [ones_size] at hi; simpa using hi
    rw [bt_ones l i hi']
    unfold sgn
    cases l.getD i false <;> rfl
theorem pow12 {n : Nat} (hn : n ≤ 12) : 2 ^ n ≤ 4096 := Nat.pow_le_pow_right (by decide) hn
theorem pow62 {n : Nat} (hn : n ≤ 61) : (2 : Int) ^ n ≤ 2305843009213693952 := by
  have h : 2 ^ n ≤ 2 ^ 61 := Nat.pow_le_pow_right (by decide) hn
  have h2 : ((2 ^ n : Nat) : Int) ≤ ((2 ^ 61 : Nat) : Int) := by exact_mod_cast h
  have h3 : ((2 ^ n : Nat) : Int) = (2 : Int) ^ n := by norm_cast
  omega
theorem pow_pos_ (n : Nat) : (1 : Int) ≤ 2 ^ n := by
  have h : 1 ≤ 2 ^ n := Nat.one_le_two_pow
  have h2 : ((1 : Nat) : Int) ≤ ((2 ^ n : Nat) : Int) := by exact_mod_cast h
  have h3 : ((2 ^ n : Nat) : Int) = (2 : Int) ^ n := by norm_cast
  omega
theorem pow2_eq (n : Nat) (hn : n ≤ 60) : ∀ k, n < k → spec_l01Pow2.f k (n : Int) = some ((2 : Int) ^ n) := by
  intro k hk
  unfold spec_l01Pow2.f
  refine rounds (fun k i => spec_l01Pow2.l0 k (n : Int) ((2 : Int) ^ i) (i : Int)) n _ ?_ ?_ k hk
  · intro k i hi
    simp only [spec_l01Pow2.l0]
    have h1 := pow62 (n := i + 1) (by omega)
    have h2 := pow_pos_ i
    rw [if_pos (by omega), w64s i (by omega), show (2 : Int) * 2 ^ i = 2 ^ (i + 1) from by rw [Int.pow_succ]; omega, w64 (by have := pow_pos_ (i + 1); omega) (by omega)]
  · intro k
    simp only [spec_l01Pow2.l0]
    rw [if_neg (by omega)]
theorem spec_TableOk_eq (N : Int) (s : ByteArray) (hs : s.size ≤ 1099511627776) : ∀ k, s.size + 20 < k → spec_TableOk.f k N s = some (tok N s) := by
  intro k hk
  obtain ⟨k, rfl⟩ : ∃ m, k = m + 1 := ⟨k - 1, by omega⟩
  unfold spec_TableOk.f spec_l01In.f
  by_cases h0 : N ≥ 0
  · rw [if_pos h0]
    by_cases h1 : N ≤ 12
    · obtain ⟨n, rfl⟩ := Int.eq_ofNat_of_zero_le h0
      simp only [h1, decide_true, Option.bind_some, if_true]
      rw [pow2_eq n (by omega) (k + 1) (by omega)]
      simp only [Option.bind_some, spec_TableOk.j0]
      by_cases h2 : (s.size : Int) = 2 ^ n
      · rw [if_neg (by simp [h2])]
        have h := rounds_all (fun k i => spec_TableOk.l0 k (i : Int) (n : Int) s) s.size (fun i => bt s i == 48 || bt s i == 49) true false ?_ ?_ ?_ k (by omega)
        · refine h.trans ?_
          unfold tok
          rw [decide_eq_true (⟨h0, h1, by rw [Int.toNat_natCast]; exact h2⟩ : 0 ≤ (n : Int) ∧ (n : Int) ≤ 12 ∧ (s.size : Int) = 2 ^ (n : Int).toNat), Bool.true_and]
          congr 1
          split <;> simp_all
        · intro k i hi hp
          simp only [spec_TableOk.l0]
          simp only [Bool.or_eq_true, beq_iff_eq] at hp
          rw [if_pos (by omega), if_pos (by omega), w64s i (by omega)]
          rcases hp with hp | hp
          · rw [if_pos hp]
          · rw [if_neg (by omega), if_pos hp]
        · intro k i hi hp
          simp only [spec_TableOk.l0]
          simp only [Bool.or_eq_false_iff, beq_eq_false_iff_ne] at hp
          rw [if_pos (by omega), if_pos (by omega), if_neg hp.1, if_neg hp.2]
        · intro k
          simp only [spec_TableOk.l0]
          rw [if_neg (by omega)]
      · rw [if_pos (by simpa using h2)]
        unfold tok
        rw [decide_eq_false (by rintro ⟨_, _, h⟩; rw [Int.toNat_natCast] at h; exact h2 h), Bool.false_and]
    · simp only [h1, decide_false, Option.bind_some]
      simp only [Bool.false_eq_true, if_false, spec_TableOk.j0, if_true]
      unfold tok
      rw [decide_eq_false (by omega), Bool.false_and]
  · rw [if_neg h0]
    simp only [Option.bind_some, Bool.false_eq_true, if_false, spec_TableOk.j0, if_true]
    unfold tok
    rw [decide_eq_false (by omega), Bool.false_and]
theorem shl_eq (n : Nat) (hn : n ≤ 60) : shl .i64 1 (n : Int) = (2 : Int) ^ n := by
  unfold shl
  rw [Int.toNat_natCast, show min n IntKind.i64.bits = n from by simp [IntKind.bits]; omega, Int.one_mul, IntKind.wrap_i64]
  have h1 := pow62 (n := n) (by omega)
  have h2 := pow_pos_ n
  omega
theorem impl_TableOk_eq (N : Int) (s : ByteArray) (hs : s.size ≤ 1099511627776) : ∀ k, s.size + 20 < k → impl_TableOk.f k N s = some (tok N s) := by
  intro k hk
  obtain ⟨k, rfl⟩ : ∃ m, k = m + 1 := ⟨k - 1, by omega⟩
  unfold impl_TableOk.f impl_within.f
  by_cases h0 : N ≥ 0
  · rw [if_pos h0]
    by_cases h1 : N ≤ 12
    · obtain ⟨n, rfl⟩ := Int.eq_ofNat_of_zero_le h0
      simp only [h1, decide_true, Option.bind_some, if_true]
      rw [u64_of (by omega) (by omega), if_pos (by omega), shl_eq n (by omega)]
      simp only [impl_TableOk.j0]
      by_cases h2 : (s.size : Int) = 2 ^ n
      · rw [if_neg (by simp [h2])]
        have h := rounds_all (fun k i => impl_TableOk.l0 k (s.size : Int) (i : Int) (n : Int) s) s.size (fun i => bt s i == 48 || bt s i == 49) true false ?_ ?_ ?_ k (by omega)
        · refine h.trans ?_
          unfold tok
          rw [decide_eq_true (⟨h0, h1, by rw [Int.toNat_natCast]; exact h2⟩ : 0 ≤ (n : Int) ∧ (n : Int) ≤ 12 ∧ (s.size : Int) = 2 ^ (n : Int).toNat), Bool.true_and]
          congr 1
          split <;> simp_all
        · intro k i hi hp
          simp only [impl_TableOk.l0]
          simp only [Bool.or_eq_true, beq_iff_eq] at hp
          rw [if_pos (by omega), if_pos (by omega), if_pos (by omega), w64s i (by omega)]
          rcases hp with hp | hp
          · rw [if_pos hp]
          · rw [if_neg (by omega), if_pos hp]
        · intro k i hi hp
          simp only [impl_TableOk.l0]
          simp only [Bool.or_eq_false_iff, beq_eq_false_iff_ne] at hp
          rw [if_pos (by omega), if_pos (by omega), if_pos (by omega), if_neg hp.1, if_neg hp.2]
        · intro k
          simp only [impl_TableOk.l0]
          rw [if_neg (by omega)]
      · rw [if_pos (by simpa using h2)]
        unfold tok
        rw [decide_eq_false (by rintro ⟨_, _, h⟩; rw [Int.toNat_natCast] at h; exact h2 h), Bool.false_and]
    · simp only [h1, decide_false, Option.bind_some]
      simp only [Bool.false_eq_true, if_false, impl_TableOk.j0, if_true]
      unfold tok
      rw [decide_eq_false (by omega), Bool.false_and]
  · rw [if_neg h0]
    simp only [Option.bind_some, Bool.false_eq_true, if_false, impl_TableOk.j0, if_true]
    unfold tok
    rw [decide_eq_false (by omega), Bool.false_and]
end Go.Proofs.Ytfincfnklcllnaa.Pure
