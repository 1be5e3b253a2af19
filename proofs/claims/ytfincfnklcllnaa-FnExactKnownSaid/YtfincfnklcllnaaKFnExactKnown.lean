-- texts of this session, merged by a program of it (wip/gen/pack.py)
import Derived.Test.YtfincfnklcllnaaKFnExactKnown1
import Derived.Laws.BitsLemmas
import Derived.ProofKit
import Derived.WalkKit
import Derived.Deep.Slices
import Derived.OpenShut
import Derived.ChangeVars
import Derived.ChangeOld
import Derived.Below
import Derived.Test.YtfincfnklcllnaaWWords
import Derived.Test.YtfincfnklcllnaaRows
import Derived.ShutString
/- Tables as lists of flags: what the program and the reference take for a right table. Conditions: each lemma's own hypotheses. -/
set_option linter.unusedSimpArgs false
set_option linter.unusedVariables false
namespace Go.Proofs.Ytfincfnklcllnaa.Pure
open Go.RowKit Go.Proofs.Ytfincfnklcllnaa.G Go.Proofs.YtfincfnklcllnaaW.PrintWords Go.Proofs.YtfincfnklcllnaaW.PrintLast Go.Proofs.YtfincfnklcllnaaW.PrintMore

/-- A search over rounds: it ends at the first round that fails. -/
theorem rounds_all {R : Type} (L : Nat → Nat → Option R) (n : Nat) (p : Nat → Bool) (r bad : R) (step : ∀ k i, i < n → p i = true → L (k + 1) i = L k (i + 1)) (exit : ∀ k i, i < n → p i = false → L (k + 1) i = some bad)
    (stop : ∀ k, L (k + 1) n = some r) : ∀ k, n < k → L k 0 = some (if (List.range n).all p then r else bad) :=
  rounds_pre L n p r bad (fun k i hi _ hp => step k i hi hp) (fun k i hi _ hp => exit k i hi hp) (fun k _ => stop k)

/-! ### tables -/
def sgn (b : Bool) : Int := if b then 49 else 48
def ones (l : List Bool) : ByteArray := ⟨(l.map fun b => if b then (49 : UInt8) else 48).toArray⟩
theorem ones_size (l : List Bool) : (ones l).size = l.length := by
  show (l.map fun b => if b then (49 : UInt8) else 48).toArray.size = _
  simp
theorem bt_ones (l : List Bool) (i : Nat) (h : i < l.length) : bt (ones l) (i : Int) = sgn (l.getD i false) := by
  have hs : i < (ones l).size := by rw [ones_size]; exact h
  rw [bt_nat _ i hs, getD_lt l i false h]
  have e : (ones l)[i] = if l[i] then (49 : UInt8) else 48 := by
    have h1 : (ones l).data.toList[i]? = some (ones l)[i] := by
      rw [List.getElem?_eq_getElem (by simpa using hs)]
      rfl
    have h2 : (ones l).data.toList[i]? = some (if l[i] then (49 : UInt8) else 48) := by simp [ones, h]
    exact Option.some.inj (h1.symm.trans h2)
  rw [e]
  unfold sgn
  cases l[i] <;> rfl
theorem ones_inj {a b : List Bool} (h : ones a = ones b) : a = b := by
  unfold ones at h
  injection h with h
  have h2 : (a.map fun b => if b then (49 : UInt8) else 48) = b.map fun b => if b then (49 : UInt8) else 48 := by simpa using congrArg Array.toList h
  exact List.map_inj_right (fun x y hxy => by revert hxy; cases x <;> cases y <;> decide) |>.1 h2
theorem data_inj {a b : ByteArray} (h : a.data.toList = b.data.toList) : a = b := by
  cases a; cases b
  simp only [ByteArray.mk.injEq]
  exact Array.toList_inj.1 h
theorem toList_inj {a b : ByteArray} : a.toList = b.toList ↔ a = b := by
  rw [toList_data, toList_data]
  exact ⟨data_inj, fun h => h ▸ rfl⟩
theorem strOfNums_ones (l : List Bool) : strOfNums (l.map sgn) = ones l := by
  unfold strOfNums ones
  congr 2
  rw [List.map_map]
  refine List.map_congr_left fun b _ => ?_
  cases b <;> rfl
def tok (N : Int) (s : ByteArray) : Bool := decide (0 ≤ N ∧ N ≤ 12 ∧ (s.size : Int) = 2 ^ N.toNat) && (List.range s.size).all fun (i : Nat) => bt s (i : Int) == 48 || bt s (i : Int) == 49
theorem tok_form {N : Int} {s : ByteArray} (h : tok N s = true) : ∃ (n : Nat) (l : List Bool), N = (n : Int) ∧ n ≤ 12 ∧ l.length = 2 ^ n ∧ s = ones l := by
  unfold tok at h
  simp only [Bool.and_eq_true, decide_eq_true_eq] at h
  obtain ⟨⟨h0, h1, h2⟩, h3⟩ := h
  obtain ⟨n, rfl⟩ := Int.eq_ofNat_of_zero_le h0
  have h2' : s.size = 2 ^ n := by
    rw [Int.toNat_natCast] at h2
    exact_mod_cast h2
  refine ⟨n, (List.range s.size).map fun (i : Nat) => decide (bt s (i : Int) = 49), rfl, by omega, by simp [h2'], ?_⟩
  apply data_inj
  apply List.ext_getElem?
  intro i
  rcases Nat.lt_or_ge i s.size with hi | hi
  · have hb := List.all_eq_true.1 h3 i (by simpa using hi)
    have e : s.data.toList[i]? = some s[i] := by
      rw [List.getElem?_eq_getElem (by simpa using hi)]
      rfl
    rw [e]
    have hv := bt_nat s i hi
    simp only [ones, List.map_map, List.getElem?_map, List.getElem?_range hi, Option.map_some, Function.comp]
    congr 1
    simp only [Bool.or_eq_true, beq_iff_eq] at hb
    have hd : ∀ c : UInt8, ((c.toNat : Int) = 48 → c = 48) ∧ ((c.toNat : Int) = 49 → c = 49) := fun c => ⟨fun h => UInt8.toNat_inj.1 (by have : c.toNat = 48 := by omega
                                                                                                                                         rw [this]; rfl), fun h => UInt8.toNat_inj.1 (by have : c.toNat = 49 := by omega
                                                                                                                                                                                         rw [this]; rfl)⟩
    rcases hb with hb | hb
    · have hc := (hd s[i]).1 (hv ▸ hb)
      simp [hb, hc]
    · have hc := (hd s[i]).2 (hv ▸ hb)
      simp [hb, hc]
  · rw [List.getElem?_eq_none (by simpa using hi), List.getElem?_eq_none (by simp [ones]; exact hi)]
theorem tok_ones {n : Nat} {l : List Bool} (hn : n ≤ 12) (hl : l.length = 2 ^ n) : tok (n : Int) (ones l) = true := by
  unfold tok
  rw [Bool.and_eq_true]
  refine ⟨decide_eq_true ⟨by omega, by omega, ?_⟩, List.all_eq_true.2 fun i hi => ?_⟩
  · rw [ones_size, hl, Int.toNat_natCast]
    norm_cast
  · have hi' : i < l.length := by rw [ones_size] at hi; simpa using hi
    rw [bt_ones l i hi']
    unfold sgn
    cases l.getD i false <;> rfl
theorem pow12 {n : Nat} (hn : n ≤ 12) : 2 ^ n ≤ 4096 := Nat.pow_le_pow_right (by decide) hn
theorem pow62 {n : Nat} (hn : n ≤ 61) : (2 : Int) ^ n ≤ 2305843009213693952 := by
  have h : 2 ^ n ≤ 2 ^ 61 := Nat.pow_le_pow_right (by decide) hn
  have h2 : ((2 ^ n : Nat) : Int) ≤ ((2 ^ 61 : Nat) : Int) := by exact_mod_cast h
  have h3 : ((2 ^ n : Nat) : Int) = (2 : Int) ^ n := by norm_cast
  omega
theorem pow_pos_ (n : Nat) : (1 : Int) ≤ 2 ^ n := by
  have h : 1 ≤ 2 ^ n := Nat.one_le_two_pow
  have h2 : ((1 : Nat) : Int) ≤ ((2 ^ n : Nat) : Int) := by exact_mod_cast h
  have h3 : ((2 ^ n : Nat) : Int) = (2 : Int) ^ n := by norm_cast
  omega
theorem pow2_eq (n : Nat) (hn : n ≤ 60) : ∀ k, n < k → spec_l01Pow2.f k (n : Int) = some ((2 : Int) ^ n) := by
  intro k hk
  unfold spec_l01Pow2.f
  refine rounds (fun k i => spec_l01Pow2.l0 k (n : Int) ((2 : Int) ^ i) (i : Int)) n _ ?_ ?_ k hk
  · intro k i hi
    simp only [spec_l01Pow2.l0]
    have h1 := pow62 (n := i + 1) (by omega)
    have h2 := pow_pos_ i
    rw [if_pos (by omega), w64s i (by omega), show (2 : Int) * 2 ^ i = 2 ^ (i + 1) from by rw [Int.pow_succ]; omega, w64 (by have := pow_pos_ (i + 1); omega) (by omega)]
  · intro k
    simp only [spec_l01Pow2.l0]
    rw [if_neg (by omega)]
theorem spec_TableOk_eq (N : Int) (s : ByteArray) (hs : s.size ≤ 1099511627776) : ∀ k, s.size + 20 < k → spec_TableOk.f k N s = some (tok N s) := by
  intro k hk
  obtain ⟨k, rfl⟩ : ∃ m, k = m + 1 := ⟨k - 1, by omega⟩
  unfold spec_TableOk.f spec_l01In.f
  by_cases h0 : N ≥ 0
  · rw [if_pos h0]
    by_cases h1 : N ≤ 12
    · obtain ⟨n, rfl⟩ := Int.eq_ofNat_of_zero_le h0
      simp only [h1, decide_true, Option.bind_some, if_true]
      rw [pow2_eq n (by omega) (k + 1) (by omega)]
      simp only [Option.bind_some, spec_TableOk.j0]
      by_cases h2 : (s.size : Int) = 2 ^ n
      · rw [if_neg (by simp [h2])]
        have h := rounds_all (fun k i => spec_TableOk.l0 k (i : Int) (n : Int) s) s.size (fun i => bt s i == 48 || bt s i == 49) true false ?_ ?_ ?_ k (by omega)
        · refine h.trans ?_
          unfold tok
          rw [decide_eq_true (⟨h0, h1, by rw [Int.toNat_natCast]; exact h2⟩ : 0 ≤ (n : Int) ∧ (n : Int) ≤ 12 ∧ (s.size : Int) = 2 ^ (n : Int).toNat), Bool.true_and]
          congr 1
          split <;> simp_all
        · intro k i hi hp
          simp only [spec_TableOk.l0]
          simp only [Bool.or_eq_true, beq_iff_eq] at hp
          rw [if_pos (by omega), if_pos (by omega), w64s i (by omega)]
          rcases hp with hp | hp
          · rw [if_pos hp]
          · rw [if_neg (by omega), if_pos hp]
        · intro k i hi hp
          simp only [spec_TableOk.l0]
          simp only [Bool.or_eq_false_iff, beq_eq_false_iff_ne] at hp
          rw [if_pos (by omega), if_pos (by omega), if_neg hp.1, if_neg hp.2]
        · intro k
          simp only [spec_TableOk.l0]
          rw [if_neg (by omega)]
      · rw [if_pos (by simpa using h2)]
        unfold tok
        rw [decide_eq_false (by rintro ⟨_, _, h⟩; rw [Int.toNat_natCast] at h; exact h2 h), Bool.false_and]
    · simp only [h1, decide_false, Option.bind_some]
      simp only [Bool.false_eq_true, if_false, spec_TableOk.j0, if_true]
      unfold tok
      rw [decide_eq_false (by omega), Bool.false_and]
  · rw [if_neg h0]
    simp only [Option.bind_some, Bool.false_eq_true, if_false, spec_TableOk.j0, if_true]
    unfold tok
    rw [decide_eq_false (by omega), Bool.false_and]
theorem shl_eq (n : Nat) (hn : n ≤ 60) : shl .i64 1 (n : Int) = (2 : Int) ^ n := by
  unfold shl
  rw [Int.toNat_natCast, show min n IntKind.i64.bits = n from by simp [IntKind.bits]; omega, Int.one_mul, IntKind.wrap_i64]
  have h1 := pow62 (n := n) (by omega)
  have h2 := pow_pos_ n
  omega
theorem impl_TableOk_eq (N : Int) (s : ByteArray) (hs : s.size ≤ 1099511627776) : ∀ k, s.size + 20 < k → impl_TableOk.f k N s = some (tok N s) := by
  intro k hk
  obtain ⟨k, rfl⟩ : ∃ m, k = m + 1 := ⟨k - 1, by omega⟩
  unfold impl_TableOk.f impl_within.f
  by_cases h0 : N ≥ 0
  · rw [if_pos h0]
    by_cases h1 : N ≤ 12
    · obtain ⟨n, rfl⟩ := Int.eq_ofNat_of_zero_le h0
      simp only [h1, decide_true, Option.bind_some, if_true]
      rw [u64_of (by omega) (by omega), if_pos (by omega), shl_eq n (by omega)]
      simp only [impl_TableOk.j0]
      by_cases h2 : (s.size : Int) = 2 ^ n
      · rw [if_neg (by simp [h2])]
        have h := rounds_all (fun k i => impl_TableOk.l0 k (s.size : Int) (i : Int) (n : Int) s) s.size (fun i => bt s i == 48 || bt s i == 49) true false ?_ ?_ ?_ k (by omega)
        · refine h.trans ?_
          unfold tok
          rw [decide_eq_true (⟨h0, h1, by rw [Int.toNat_natCast]; exact h2⟩ : 0 ≤ (n : Int) ∧ (n : Int) ≤ 12 ∧ (s.size : Int) = 2 ^ (n : Int).toNat), Bool.true_and]
          congr 1
          split <;> simp_all
        · intro k i hi hp
          simp only [impl_TableOk.l0]
          simp only [Bool.or_eq_true, beq_iff_eq] at hp
          rw [if_pos (by omega), if_pos (by omega), if_pos (by omega), w64s i (by omega)]
          rcases hp with hp | hp
          · rw [if_pos hp]
          · rw [if_neg (by omega), if_pos hp]
        · intro k i hi hp
          simp only [impl_TableOk.l0]
          simp only [Bool.or_eq_false_iff, beq_eq_false_iff_ne] at hp
          rw [if_pos (by omega), if_pos (by omega), if_pos (by omega), if_neg hp.1, if_neg hp.2]
        · intro k
          simp only [impl_TableOk.l0]
          rw [if_neg (by omega)]
      · rw [if_pos (by simpa using h2)]
        unfold tok
        rw [decide_eq_false (by rintro ⟨_, _, h⟩; rw [Int.toNat_natCast] at h; exact h2 h), Bool.false_and]
    · simp only [h1, decide_false, Option.bind_some]
      simp only [Bool.false_eq_true, if_false, impl_TableOk.j0, if_true]
      unfold tok
      rw [decide_eq_false (by omega), Bool.false_and]
  · rw [if_neg h0]
    simp only [Option.bind_some, Bool.false_eq_true, if_false, impl_TableOk.j0, if_true]
    unfold tok
    rw [decide_eq_false (by omega), Bool.false_and]
end Go.Proofs.Ytfincfnklcllnaa.Pure
/- Tables put together value by value, the program's and the reference's. Conditions: each lemma's own hypotheses. -/

set_option linter.unusedSimpArgs false
set_option linter.unusedVariables false
namespace Go.Proofs.Ytfincfnklcllnaa.Pure
open Go.RowKit Go.Proofs.Ytfincfnklcllnaa.G Go.Proofs.YtfincfnklcllnaaW.PrintWords Go.Proofs.YtfincfnklcllnaaW.PrintLast Go.Proofs.YtfincfnklcllnaaW.PrintMore

/-- The flags of a table's values. -/
def flags (s : ByteArray) : List Bool := s.data.toList.map fun c => c == 49
theorem flags_ones (l : List Bool) : flags (ones l) = l := by
  unfold flags
  simp only [ones, List.map_map]
  exact (List.map_congr_left (fun b _ => by cases b <;> rfl)).trans (List.map_id l)
/-- The table of what is not. -/
def notT (N : Int) (s : ByteArray) : Int × ByteArray := if tok N s then (N, ones ((flags s).map not)) else (0, ⟨#[]⟩)
theorem range_getD (l : List Bool) (f : Bool → Bool) : (List.range l.length).map (fun i => f (l.getD i false)) = l.map f := by
  apply List.ext_getElem
  · simp
  · intro i h1 h2
    simp only [List.getElem_map, List.getElem_range]
    rw [getD_lt l i false (by simpa using h1)]
/-- Two tables put together, value by value. -/
def bothT (f : Bool → Bool → Bool) (N : Int) (s : ByteArray) (M : Int) (t : ByteArray) : Int × ByteArray × Bool := if tok N s && tok M t && (N == M) then (N, ones (List.zipWith f (flags s) (flags t)), true) else (0, ⟨#[]⟩, false)
theorem range_zip (a b : List Bool) (f : Bool → Bool → Bool) (h : a.length = b.length) : (List.range a.length).map (fun i => f (a.getD i false) (b.getD i false)) = List.zipWith f a b := by
  apply List.ext_getElem
  · simp [h]
  · intro i h1 h2
    have h3 : i < a.length := by simpa using h1
    simp only [List.getElem_map, List.getElem_range, List.getElem_zipWith]
    rw [getD_lt a i false h3, getD_lt b i false (by omega)]
theorem same_len {n m : Nat} {a b : List Bool} (ha : a.length = 2 ^ n) (hb : b.length = 2 ^ m) (h : (n : Int) = (m : Int)) : a.length = b.length := by
  have : n = m := by omega
  rw [ha, hb, this]
end Go.Proofs.Ytfincfnklcllnaa.Pure
/- How many of a table's values are 1, and whether they are all the same. Conditions: each lemma's own hypotheses. -/
set_option linter.unusedSimpArgs false
set_option linter.unusedVariables false
namespace Go.Proofs.Ytfincfnklcllnaa.Pure
open Go.RowKit Go.Proofs.Ytfincfnklcllnaa.G Go.Proofs.YtfincfnklcllnaaW.PrintWords Go.Proofs.YtfincfnklcllnaaW.PrintLast Go.Proofs.YtfincfnklcllnaaW.PrintMore

theorem ones_data (l : List Bool) : (ones l).data.toList = l.map fun b => if b then (49 : UInt8) else 48 := by simp [ones]
theorem contains1 (l : List Bool) : (ones l).data.toList.contains 49 = l.contains true := by
  rw [ones_data]
  induction l with
  | nil => rfl
  | cons b l ih =>
    rw [List.map_cons, List.contains_cons, List.contains_cons, ih]
    congr 1
    cases b <;> rfl
theorem contains0 (l : List Bool) : (ones l).data.toList.contains 48 = l.contains false := by
  rw [ones_data]
  induction l with
  | nil => rfl
  | cons b l ih =>
    rw [List.map_cons, List.contains_cons, List.contains_cons, ih]
    congr 1
    cases b <;> rfl
theorem count1 (l : List Bool) : (ones l).data.toList.count 49 = l.count true := by
  rw [ones_data]
  induction l with
  | nil => rfl
  | cons b l ih =>
    rw [List.map_cons, List.count_cons, List.count_cons, ih]
    congr 1
    cases b <;> rfl
/-- The one value of all of a table's, or -1. -/
def knownT (N : Int) (s : ByteArray) : Int := if tok N s then (if (flags s).contains true then (if (flags s).contains false then -1 else 1) else 0) else -1
theorem all_cont (t : List Bool) (b : Bool) : (t.all fun x => x == b) = !t.contains (!b) := by
  induction t with
  | nil => rfl
  | cons x t ih =>
    rw [List.all_cons, ih, List.contains_cons]
    cases x <;> cases b <;> simp
theorem range_all_getD (t : List Bool) (b : Bool) : ((List.range t.length).all fun i => t.getD i false == b) = t.all fun x => x == b := by
  have h := congrArg (fun m : List Bool => m.all id) (range_getD t (fun x => x == b))
  simpa [List.all_map, Function.comp_def] using h
theorem impl_Table_known_eq (N : Int) (l : List Bool) : impl_Table_known.f N (ones l) = some (if l.contains true then (if l.contains false then -1 else 1) else 0) := by
  unfold impl_Table_known.f
  rw [show strings_Contains.f (ones l) ⟨#[49]⟩ = some ((ones l).data.toList.contains 49) from rfl, show strings_Contains.f (ones l) ⟨#[48]⟩ = some ((ones l).data.toList.contains 48) from rfl, contains1, contains0]
  have hb : ∀ b, impl_bit.f b = some (if b then 1 else 0) := fun b => by cases b <;> rfl
  simp only [Option.bind_some, hb]
  cases l.contains true <;> cases l.contains false <;> rfl
theorem impl_Known_eq (N : Int) (s : ByteArray) (hs : s.size ≤ 1099511627776) : ∀ k, s.size + 20 < k → impl_Known.f k N s = some (knownT N s) := by
  intro k hk
  unfold impl_Known.f knownT
  rw [impl_TableOk_eq N s hs k hk, Option.bind_some]
  cases ht : tok N s with
  | false => rfl
  | true =>
    obtain ⟨n, l, rfl, hn, hl, rfl⟩ := tok_form ht
    rw [if_pos rfl, if_pos rfl, impl_Table_known_eq, flags_ones]
    rfl
theorem spec_Known_eq (N : Int) (s : ByteArray) (hs : s.size ≤ 1099511627776) : ∀ k, s.size + 20 < k → spec_Known.f k N s = some (knownT N s) := by
  intro k hk
  unfold spec_Known.f knownT
  rw [spec_TableOk_eq N s hs k hk, Option.bind_some]
  cases ht : tok N s with
  | false => rfl
  | true =>
    obtain ⟨n, l, rfl, hn, hl, rfl⟩ := tok_form ht
    have hp := pow12 hn
    have hpos : 0 < 2 ^ n := Nat.two_pow_pos n
    rw [if_pos rfl, if_pos rfl, flags_ones]
    cases l with
    | nil => simp at hl; omega
    | cons b t =>
      simp only [List.length_cons] at hl
      have h := rounds_all (fun k i => spec_Known.l0 k ((i + 1 : Nat) : Int) (n : Int) (ones (b :: t))) t.length (fun i => t.getD i false == b) (if b then 1 else 0) (-1) ?_ ?_ ?_ k (by rw [ones_size] at hk; simp at hk; omega)
      · refine h.trans ?_
        rw [range_all_getD, all_cont]
        cases b <;> cases h1 : t.contains true <;> cases h2 : t.contains false <;> simp_all
      all_goals simp only [spec_Known.l0]
      · intro k i hi hpi
        rw [if_pos (by rw [ones_size, List.length_cons]; omega), if_pos (by omega), if_pos (by rw [ones_size, List.length_cons]; omega), bt_ones _ (i + 1) (by simp; omega), show (0 : Int) = ((0 : Nat) : Int) from rfl, bt_ones _ 0 (by simp), if_pos (by simpa using congrArg sgn (beq_iff_eq.1 hpi)), w64s (i + 1) (by omega)]
      · intro k i hi hpi
        rw [if_pos (by rw [ones_size, List.length_cons]; omega), if_pos (by omega), if_pos (by rw [ones_size, List.length_cons]; omega), bt_ones _ (i + 1) (by simp; omega), show (0 : Int) = ((0 : Nat) : Int) from rfl, bt_ones _ 0 (by simp), if_neg ?_]
        simp only [List.getD_cons_succ, List.getD_cons_zero]
        intro e
        have hx : ∀ x y : Bool, sgn x = sgn y → x = y := by decide
        rw [hx _ _ e] at hpi
        simp at hpi
      · intro k
        rw [if_neg (by rw [ones_size, List.length_cons]; omega), if_pos (by rw [ones_size, List.length_cons]; omega), show (0 : Int) = ((0 : Nat) : Int) from rfl, bt_ones _ 0 (by simp), List.getD_cons_zero]
        cases b <;> decide +kernel
/-- How many of a table's values are 1, or -1. -/
def countT (N : Int) (s : ByteArray) : Int := if tok N s then (((flags s).count true : Nat) : Int) else -1
end Go.Proofs.Ytfincfnklcllnaa.Pure
/- The program's Known and the reference's. Conditions: a string's length fits. -/
set_option linter.unusedSimpArgs false
set_option linter.unusedVariables false
namespace Go.Proofs.Ytfincfnklcllnaa.Pure
open Go.RowKit Go.Proofs.Ytfincfnklcllnaa.G Go.Proofs.YtfincfnklcllnaaW.PrintWords Go.Proofs.YtfincfnklcllnaaW.PrintLast Go.Proofs.YtfincfnklcllnaaW.PrintMore

theorem FnExactKnown_pure : ∀ (a0_0 : Int) (a0_1 : ByteArray), ((Lit.int .i64 a0_0).wf = true ∧ a0_1.size ≤ maxLen) → ∃ k, laws_FnExactKnown.f k a0_0 a0_1 = some true := by
  intro N s ⟨_, hs⟩
  obtain ⟨k, hk⟩ : ∃ k, s.size + 20 < k := ⟨s.size + 21, by omega⟩
  refine ⟨k, ?_⟩
  unfold laws_FnExactKnown.f
  rw [szTable_eq N s hs, Option.bind_some]
  by_cases h : (s.size : Int) > 1048576
  · rw [if_pos h, if_pos (by decide)]
  · rw [if_neg h, if_neg (by omega)]
    simp only [laws_toTable.f, Option.bind_some, spec_Known_eq N s (by omega) k hk, impl_Known_eq N s (by omega) k hk, if_true]
end Go.Proofs.Ytfincfnklcllnaa.Pure
/- What an argument of a law reads as, told by the print's kinds: a lemma for each shape of type. Conditions: none beyond the lemmas' own hypotheses. -/
namespace Go.Proofs.Ytfincfnklcllnaa.Open
open Go.Deep Go.ChangeShapes Go.WideShapes Go.RowKit Go.Proofs.YtfincfnklcllnaaW.PrintWords

/-- Whatever reads as data of type t reads by the kind d, and what is read is ok. -/
def Opens {α : Type} (P : Program) (t : TypeId) (d : Kd α) (ok : α → Prop) : Prop :=
  ∀ (H : Type) (enc : TypeId × Value → H) (w : World) (base : Nat) (spare : Nat → Bool) (held : Bool) (fuel : Nat) (cs : List Value) (x : DataW H × List MemPlace),
    DataW.trod enc P w base spare held fuel t cs = some x → ∃ a, d.K w a cs ∧ ok a

def FOpens {α : Type} (P : Program) (fs : List Field) (off : Nat) (d : Kd α) (ok : α → Prop) : Prop :=
  ∀ (H : Type) (enc : TypeId × Value → H) (w : World) (base : Nat) (spare : Nat → Bool) (held : Bool) (fuel : Nat) (cs : List Value),
    (∀ f ∈ fs, ∃ x, DataW.trod enc P w base spare held fuel f.type ((cs.drop f.offset).take (P.cellsOf f.type)) = some x) → ∃ a, d.K w a ((cs.drop off).take d.sz) ∧ ok a

theorem opens_int {P : Program} {t : TypeId} {k : IntKind} (hu : P.underlying t = some (.int k)) : Opens P t (Kd.int k) (fun a => (Lit.int k a).wf = true) := by
  intro H enc w base spare held fuel cs x h
  obtain ⟨n, rfl, _, hw⟩ := DataW.trod_int hu h
  exact ⟨n, rfl, hw⟩
theorem opens_bool {P : Program} {t : TypeId} (hu : P.underlying t = some .bool) : Opens P t Kd.bool (fun _ => True) := by
  intro H enc w base spare held fuel cs x h
  obtain ⟨n, rfl, _⟩ := DataW.trod_bool hu h
  exact ⟨n, rfl, trivial⟩
theorem opens_string {P : Program} {t : TypeId} (hu : P.underlying t = some .string) : Opens P t Kd.string (fun s => s.size ≤ maxLen) := by
  intro H enc w base spare held fuel cs x h
  obtain ⟨n, rfl, _, hw⟩ := DataW.trod_string hu h
  exact ⟨n, rfl, hw⟩
theorem list_of {α : Type} {p : Nat → α → Prop} : ∀ n, (∀ i, i < n → ∃ a, p i a) → ∃ l : List α, l.length = n ∧ ∀ i a, l[i]? = some a → p i a
  | 0, _ => ⟨[], rfl, fun i a h => by simp at h⟩
  | n + 1, h => by
    obtain ⟨l, hl, hp⟩ := list_of n (fun i hi => h i (by omega))
    obtain ⟨a, ha⟩ := h n (by omega)
    refine ⟨l ++ [a], by simp [hl], fun i b hb => ?_⟩
    rw [List.getElem?_append] at hb
    split at hb
    · exact hp i b hb
    · rename_i hi
      have e : i = n := by
        rcases Nat.lt_or_ge (i - l.length) 1 with h1 | h1
        · omega
        · rw [List.getElem?_eq_none (by simpa using h1)] at hb
          cases hb
      subst e
      rw [hl, Nat.sub_self] at hb
      cases hb
      exact ha
theorem opens_slice {α : Type} {P : Program} {t e : TypeId} {d : Kd α} {ok : α → Prop} (hu : P.underlying t = some (.slice e)) (hc : P.cellsOf e = d.sz) (h : Opens P e d ok) :
    Opens P t (Kd.slice e d) (fun l => l.length ≤ maxLen ∧ ∀ x ∈ l, ok x) := by
  intro H enc w base spare held fuel cs x hx
  rcases open_slice hu hx with ⟨rfl, rfl⟩ | ⟨a, len, cap, m, n, D, Pl, rfl, hb, hl, hm, hmm, rfl, hel⟩
  · exact ⟨[], ⟨none, 0, rfl, Nat.le_refl _, rfl, by simp, fun h => absurd h (by simp)⟩, by simp [maxLen], by simp⟩
  · have hle : len ≤ m := by rw [hmm]; split <;> omega
    have hone : ∀ i, i < len → ∃ y : α, (∃ cs', w.cells? base (a.add (i * P.cellsOf e)) (P.cellsOf e) = some cs' ∧ d.K w y cs') ∧ ok y := by
      intro i hi
      obtain ⟨cs', h1, h2⟩ := hel i (by omega)
      obtain ⟨y, hk, ho⟩ := h H enc w base spare held n cs' _ h2
      exact ⟨y, ⟨cs', h1, hk⟩, ho⟩
    obtain ⟨l, hll, hp⟩ := list_of len hone
    subst hll
    refine ⟨l, ⟨some a, cap, rfl, hl, rfl, by simp only [maxLen] at hm; omega, fun _ => ⟨a, rfl, fun j p hj => ?_⟩⟩, by omega, ?_⟩
    · obtain ⟨⟨cs', h1, hk⟩, _⟩ := hp j p hj
      refine ⟨cs', d.K_len hk, hk, fun i u hu => ?_⟩
      have hlt : i < cs'.length := by
        rcases Nat.lt_or_ge i cs'.length with h' | h'
        · exact h'
        · rw [List.getElem?_eq_none h'] at hu; cases hu
      have hlen := d.K_len hk
      obtain ⟨_, hlen2, hcell⟩ := World.cells?_some h1
      rw [hc] at hcell
      have := hcell i (by omega)
      rw [hu] at this
      rw [← Addr.add_add]
      exact this.symm ▸ rfl
    · intro x hx
      obtain ⟨i, hi, rfl⟩ := List.getElem_of_mem hx
      exact (hp i _ (List.getElem?_eq_getElem hi)).2
theorem fopens_one {α : Type} {P : Program} {f : Field} {off : Nat} {d : Kd α} {ok : α → Prop} (ho : f.offset = off) (hc : P.cellsOf f.type = d.sz) (h : Opens P f.type d ok) : FOpens P [f] off d ok := by
  intro H enc w base spare held fuel cs hx
  obtain ⟨x, hx⟩ := hx f (by simp)
  rw [ho, hc] at hx
  exact h H enc w base spare held fuel _ x hx
theorem fopens_cons {α β : Type} {P : Program} {f : Field} {fs : List Field} {off : Nat} {d : Kd α} {d' : Kd β} {ok : α → Prop} {ok' : β → Prop} (ho : f.offset = off) (hc : P.cellsOf f.type = d.sz) (h : Opens P f.type d ok)
    (hs : FOpens P fs (off + d.sz) d' ok') : FOpens P (f :: fs) off (Kd.pair d d') (fun x => ok x.1 ∧ ok' x.2) := by
  intro H enc w base spare held fuel cs hx
  obtain ⟨a, ha, hoa⟩ := fopens_one ho hc h H enc w base spare held fuel cs (fun g hg => hx g (by simp at hg; simp [hg]))
  obtain ⟨b, hb, hob⟩ := hs H enc w base spare held fuel cs (fun g hg => hx g (by simp [hg]))
  refine ⟨(a, b), ⟨_, _, ?_, ha, hb⟩, hoa, hob⟩
  show (cs.drop off).take (d.sz + d'.sz) = _
  rw [List.take_add, List.drop_drop]
theorem opens_struct {α : Type} {P : Program} {t : TypeId} {fs : Array Field} {d : Kd α} {ok : α → Prop} (hu : P.underlying t = some (.struct fs)) (hc : P.cellsOf t = d.sz) (h : FOpens P fs.toList 0 d ok) : Opens P t d ok := by
  intro H enc w base spare held fuel cs x hx
  obtain ⟨xs, n, rfl, _, hlen, hxl, hf⟩ := DataW.trod_struct hu hx
  have := h H enc w base spare held n cs (fun f hm => by
    obtain ⟨i, hi, rfl⟩ := List.getElem_of_mem hm
    have hi' : i < fs.size := by simpa using hi
    have e := hf i fs[i] (Array.getElem?_eq_getElem hi')
    rw [List.getElem?_eq_getElem (show i < xs.length by omega)] at e
    exact ⟨_, by simpa using e⟩)
  rw [List.drop_zero, List.take_of_length_le (by omega)] at this
  exact this
theorem opens_iso {α β : Type} {P : Program} {t : TypeId} {d : Kd α} {ok : α → Prop} (f : β → α) (g : α → β) (hfg : ∀ a, f (g a) = a) (h : Opens P t d ok) : Opens P t (Kd.iso d f) (fun x => ok (f x)) := by
  intro H enc w base spare held fuel cs x hx
  obtain ⟨a, ha, ho⟩ := h H enc w base spare held fuel cs x hx
  exact ⟨g a, by show d.K w (f (g a)) cs; rw [hfg]; exact ha, by show ok (f (g a)); rw [hfg]; exact ho⟩
/-- A struct's value is its cells. -/
theorem agg_of_cells {P : Program} {w : World} {r : Reach} {base : Nat} {t : TypeId} {fs : Array Field} {v : Value} {cs : List Value} (hu : P.underlying t = some (.struct fs)) (hv : Value.okWide P w r base t v) (hc : v.cells.toList = cs) : v = .agg cs.toArray := by
  obtain ⟨c, rfl, _⟩ := okWide_struct hu hv
  simp only [Value.cells] at hc
  subst hc
  simp
end Go.Proofs.Ytfincfnklcllnaa.Open
/- The statement FnExactKnownSaid of the law FnExactKnown: for every input the call returns true and its arguments read as before. Conditions: none. (Written by a program of this session: wip/gen/row.py.) -/
namespace Go.Proofs.Ytfincfnklcllnaa.fnExactKnown
open Go.ChangeShapes Go.WideShapes Go.ChangeAt Go.RowKit Go.Proofs.Ytfincfnklcllnaa.Open Go.Proofs.Ytfincfnklcllnaa.G Go.Proofs.YtfincfnklcllnaaW.PrintWords
open Go.ChangeMaps (open_string shut_string)
set_option linter.unusedVariables false
theorem own : ownKnob Try.prog.godebug = none := by kernel_rfl
theorem laidOut : laidOutB Try.prog = true := by kernel_rfl
set_option maxRecDepth 100000 in
theorem lifted (os : Os) (started : os.Started) (H : Type) (enc : TypeId × Value → H) :
    ReturnsInHanded {} Try.checked os 13 .any (Rows.fnExactKnownSpec.pre6 enc Try.prog Try.f13 Rows.fnExactKnownRow.domain false) (Rows.fnExactKnownSpec.post enc Try.prog Try.f13 false true false false) := by
  refine returnsInHanded_of_change (C := Try.checked) own started (by kernel_rfl) Try.func13
    (ChangeSpec.witness6 (enc := enc) (C := Try.checked) false ⟨#[], #[.agg #[.int .i64 0, .string ByteArray.empty]], []⟩ 8 (by kernel_rfl) (by kernel_rfl) (by kernel_rfl) (by kernel_rfl)) ?_
  intro W base args ds gs before hval0 hW hcnd _
  have hval : ∀ (j : Nat) t v, Try.f13.params[j]? = some t → args[j]? = some v → Value.okWide Try.prog W .any base t v := hval0
  have hW' := hW
  obtain ⟨p, q, hA0, hV, rfl, hfz, hnd⟩ := hW
  have hA : DataW.TrodAll enc Try.prog W 0 (fun _ => true) true Try.f13.params.toList args.toList ds p := hA0
  rw [Try.params13] at hA hval
  obtain ⟨v0, vs0, d0, ds0, p0, q0, hargs, rfl, rfl, h0, r0⟩ := trodAll_cons hA
  obtain ⟨rfl, rfl, rfl⟩ := trodAll_nil r0
  obtain rfl : args = #[v0] := by cases args; simp_all
  obtain ⟨rfl, rfl⟩ := trodVars_none hV
  have k0 := h0
  have lt0 : ∀ x ∈ p0, x.block < W.heap.size := by obtain ⟨m, hm⟩ := k0; exact DataW.trod_lt m _ _ _ hm
  obtain ⟨fu0, hf0⟩ := h0
  obtain ⟨⟨a0_0, a0_1⟩, hk0, ok0⟩ := (opens_struct Try.underlying30 (by kernel_rfl) (fopens_cons rfl (by kernel_rfl) (opens_int Try.underlying3) (fopens_one rfl (by kernel_rfl) (opens_string Try.underlying9)))) _ enc W 0 _ true fu0 _ _ hf0
  generalize hcs0 : v0.cells.toList = cs0 at hk0
  obtain ⟨_, _, rfl, rfl, rfl⟩ := hk0
  obtain rfl := agg_of_cells Try.underlying30 (hval 0 30 v0 rfl rfl) hcs0
  clear hA0 hval0
  obtain ⟨k, hk⟩ := Pure.FnExactKnown_pure a0_0 a0_1 ok0
  refine (laws_FnExactKnown.calls k a0_0 a0_1 true W rfl hk).mono fun e W' ⟨he, bel0⟩ => ?_
  have bel : Below W.heap.size W W' := bel0
  subst he
  exact ⟨_, rfl, _, _, _, [], _, [], hW', trodAll_mk1 (shut_bool Try.underlying4 _), (trodAll_cons_mk (Below.trod laidOut (by kernel_rfl) (of_decide_eq_true (by kernel_rfl)) k0 bel lt0) trodAll_mk0), rfl, bel.frame _, fun h => by cases h⟩
theorem over : Rows.fnExactKnownRow.holds Try.pinned (OpenSpec.ofChange Rows.fnExactKnownSpec) :=
  OpenClaim.holds_of_wide 13 Try.f13 rfl rfl rfl rfl rfl rfl rfl ⟨rfl, rfl, rfl, rfl, rfl⟩ rfl rfl rfl rfl rfl (by kernel_rfl) Try.func13 (by kernel_rfl)
    (of_decide_eq_true (by kernel_rfl)) (by unfold Func.isWrapper; first | (rw [if_pos (by decide +kernel)]; kernel_rfl) | (rw [if_neg (by decide +kernel)]; exact ⟨rfl, rfl⟩))
    (fun os started H enc _ => lifted os started H enc)
theorem proved : Rows.FnExactKnownSaid := over
end Go.Proofs.Ytfincfnklcllnaa.fnExactKnown
namespace Go.Proofs.Ytfincfnklcllnaa
/-- The given statement. -/
theorem fnExactKnown_holds : Rows.FnExactKnownSaid := fnExactKnown.proved
#print axioms fnExactKnown_holds
end Go.Proofs.Ytfincfnklcllnaa
