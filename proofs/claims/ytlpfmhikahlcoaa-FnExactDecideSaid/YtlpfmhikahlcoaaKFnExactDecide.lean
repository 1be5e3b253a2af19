-- texts of this session, merged by a program of it (wip/gen/pack.py)
import Derived.Test.YtlpfmhikahlcoaaKFnExactDecide3
import Derived.Test.YtlpfmhikahlcoaaKFnExactDecide1
import Derived.Test.YtlpfmhikahlcoaaKFnExactDecide2
import Derived.ProofKit
import Derived.WalkKit
import Derived.Deep.Slices
import Derived.OpenShut
import Derived.ChangeVars
import Derived.ChangeOld
import Derived.Below
import Derived.Test.YtlpfmhikahlcoaaWWords
import Derived.Test.YtlpfmhikahlcoaaRows
import Derived.ShutString
/- Tables put together value by value, the program's and the reference's. Conditions: each lemma's own hypotheses. -/

set_option linter.unusedSimpArgs false
set_option linter.unusedVariables false
namespace Go.Proofs.Ytlpfmhikahlcoaa.Pure
open Go.RowKit Go.Proofs.Ytlpfmhikahlcoaa.G Go.Proofs.YtlpfmhikahlcoaaW.PrintWords Go.Proofs.YtlpfmhikahlcoaaW.PrintLast Go.Proofs.YtlpfmhikahlcoaaW.PrintMore

/-- The flags of a table's values. -/
def flags (s : ByteArray) : List Bool := s.data.toList.map fun c => c == 49
theorem flags_ones (l : List Bool) : flags (ones l) = l := by
  unfold flags
  simp only [ones, List.map_map]
  exact (List.map_congr_left (fun b _ => by cases b <;> rfl)).trans (List.map_id l)
/-- The table of what is not. -/
def notT (N : Int) (s : ByteArray) : Int × ByteArray := if tok N s then (N, ones ((flags s).map not)) else (0, ⟨#[]⟩)
theorem range_getD (l : List Bool) (f : Bool → Bool) : (List.range l.length).map (fun i => f (l.getD i false)) = l.map f := by
  apply List.ext_getElem
  · simp
  · intro i h1 h2
    simp only [List.getElem_map, List.getElem_range]
    rw [getD_lt l i false (by simpa using h1)]
/-- Two tables put together, value by value. -/
def bothT (f : Bool → Bool → Bool) (N : Int) (s : ByteArray) (M : Int) (t : ByteArray) : Int × ByteArray × Bool := if tok N s && tok M t && (N == M) then (N, ones (List.zipWith f (flags s) (flags t)), true) else (0, ⟨#[]⟩, false)
theorem range_zip (a b : List Bool) (f : Bool → Bool → Bool) (h : a.length = b.length) : (List.range a.length).map (fun i => f (a.getD i false) (b.getD i false)) = List.zipWith f a b := by
  apply List.ext_getElem
  · simp [h]
  · intro i h1 h2
    have h3 : i < a.length := by simpa using h1
    simp only [List.getElem_map, List.getElem_range, List.getElem_zipWith]
    rw [getD_lt a i false h3, getD_lt b i false (by omega)]
theorem same_len {n m : Nat} {a b : List Bool} (ha : a.length = 2 ^ n) (hb : b.length = 2 ^ m) (h : (n : Int) = (m : Int)) : a.length = b.length := by
  have : n = m := by omega
  rw [ha, hb, this]
end Go.Proofs.Ytlpfmhikahlcoaa.Pure
/- How many of a table's values are 1, and whether they are all the same. Conditions: each lemma's own hypotheses. -/
set_option linter.unusedSimpArgs false
set_option linter.unusedVariables false
namespace Go.Proofs.Ytlpfmhikahlcoaa.Pure
open Go.RowKit Go.Proofs.Ytlpfmhikahlcoaa.G Go.Proofs.YtlpfmhikahlcoaaW.PrintWords Go.Proofs.YtlpfmhikahlcoaaW.PrintLast Go.Proofs.YtlpfmhikahlcoaaW.PrintMore

theorem ones_data (l : List Bool) : (ones l).data.toList = l.map fun b => if b then (49 : UInt8) else 48 := by simp [ones]
theorem contains1 (l : List Bool) : (ones l).data.toList.contains 49 = l.contains true := by
  rw [ones_data]
  induction l with
  | nil => rfl
  | cons b l ih =>
    rw [List.map_cons, List.contains_cons, List.contains_cons, ih]
    congr 1
    cases b <;> rfl
theorem contains0 (l : List Bool) : (ones l).data.toList.contains 48 = l.contains false := by
  rw [ones_data]
  induction l with
  | nil => rfl
  | cons b l ih =>
    rw [List.map_cons, List.contains_cons, List.contains_cons, ih]
    congr 1
    cases b <;> rfl
theorem count1 (l : List Bool) : (ones l).data.toList.count 49 = l.count true := by
  rw [ones_data]
  induction l with
  | nil => rfl
  | cons b l ih =>
    rw [List.map_cons, List.count_cons, List.count_cons, ih]
    congr 1
    cases b <;> rfl
/-- The one value of all of a table's, or -1. -/
def knownT (N : Int) (s : ByteArray) : Int := if tok N s then (if (flags s).contains true then (if (flags s).contains false then -1 else 1) else 0) else -1
theorem all_cont (t : List Bool) (b : Bool) : (t.all fun x => x == b) = !t.contains (!b) := by
  induction t with
  | nil => rfl
  | cons x t ih =>
    rw [List.all_cons, ih, List.contains_cons]
    cases x <;> cases b <;> simp
theorem range_all_getD (t : List Bool) (b : Bool) : ((List.range t.length).all fun i => t.getD i false == b) = t.all fun x => x == b := by
  have h := congrArg (fun m : List Bool => m.all id) (range_getD t (fun x => x == b))
  simpa [List.all_map, Function.comp_def] using h
theorem impl_Table_known_eq (N : Int) (l : List Bool) : impl_Table_known.f N (ones l) = some (if l.contains true then (if l.contains false then -1 else 1) else 0) := by
  unfold impl_Table_known.f
  rw [show strings_Contains.f (ones l) ⟨#[49]⟩ = some ((ones l).data.toList.contains 49) from rfl, show strings_Contains.f (ones l) ⟨#[48]⟩ = some ((ones l).data.toList.contains 48) from rfl, contains1, contains0]
  have hb : ∀ b, impl_bit.f b = some (if b then 1 else 0) := fun b => by cases b <;> rfl
  simp only [Option.bind_some, hb]
  cases l.contains true <;> cases l.contains false <;> rfl
/-- How many of a table's values are 1, or -1. -/
def countT (N : Int) (s : ByteArray) : Int := if tok N s then (((flags s).count true : Nat) : Int) else -1
end Go.Proofs.Ytlpfmhikahlcoaa.Pure
/- Halves of tables; the value of a row of choices over a table. Conditions: each lemma's own hypotheses. -/
set_option linter.unusedSimpArgs false
set_option linter.unusedVariables false
namespace Go.Proofs.Ytlpfmhikahlcoaa.Pure
open Go.RowKit Go.Proofs.Ytlpfmhikahlcoaa.G Go.Proofs.YtlpfmhikahlcoaaW.PrintWords Go.Proofs.YtlpfmhikahlcoaaW.PrintLast Go.Proofs.YtlpfmhikahlcoaaW.PrintMore

theorem ones_extract (l : List Bool) (a b : Nat) : (ones l).extract a b = ones ((l.take b).drop a) := by
  apply data_inj
  rw [ByteArray.data_extract]
  simp only [ones, Array.toList_extract, List.extract_eq_take_drop, List.map_drop, List.map_take]
  rw [List.drop_take]
/-- A half of a table. -/
def halfL (l : List Bool) (h : Bool) : List Bool := if h then l.drop (l.length / 2) else l.take (l.length / 2)
theorem halfL_len {n : Nat} {l : List Bool} (hl : l.length = 2 ^ (n + 1)) (h : Bool) : (halfL l h).length = 2 ^ n := by
  rw [Nat.pow_succ] at hl
  cases h <;> simp [halfL] <;> omega
/-- The half that a number tells; none where it tells none. -/
def halfT (N : Int) (s : ByteArray) (h : Int) : Int × ByteArray × Bool := if tok N s && (N != 0) && (h == 0 || h == 1) then (N - 1, ones (halfL (flags s) (h == 1)), true) else (0, ⟨#[]⟩, false)
theorem impl_half_eq (n : Nat) (l : List Bool) (hn : n ≤ 11) (hl : l.length = 2 ^ (n + 1)) (h : Int) : impl_Table_half.f ((n + 1 : Nat) : Int) (ones l) h = some ((n : Int), ones (halfL l (h != 0))) := by
  have hp := pow12 (n := n + 1) (by omega)
  unfold impl_Table_half.f
  rw [ones_size, show ((l.length : Nat) : Int) / 2 = ((l.length / 2 : Nat) : Int) by omega, w64 (n := ((l.length / 2 : Nat) : Int)) (by omega) (by omega), w64 (n := ((n + 1 : Nat) : Int) - 1) (by omega) (by omega), show ((n + 1 : Nat) : Int) - 1 = (n : Int) by omega, Int.toNat_natCast]
  by_cases h0 : h = 0
  · rw [if_pos h0, if_pos (by omega), if_pos (by omega), ones_extract, h0]
    rfl
  · have e : (h != 0) = true := bne_iff_ne.2 h0
    rw [if_neg h0, if_pos (by omega), if_pos (by omega), ones_extract, List.take_of_length_le (by omega), e]
    rfl
theorem spec_Half_eq (N : Int) (s : ByteArray) (h : Int) (hs : s.size ≤ 1099511627776) : ∀ k, s.size + 20 < k → spec_Half.f k N s h = some (halfT N s h) := by
  intro k hk
  unfold spec_Half.f halfT
  rw [spec_TableOk_eq N s hs k hk, Option.bind_some]
  cases ht : tok N s with
  | false => rfl
  | true =>
    obtain ⟨n, l, rfl, hn, hl, rfl⟩ := tok_form ht
    have hp := pow12 hn
    rw [if_pos rfl]
    by_cases h0 : (n : Int) = 0
    · rw [if_pos h0, h0]
      rfl
    · have e0 : ((n : Int) != 0) = true := bne_iff_ne.2 h0
      rw [if_neg h0, e0]
      unfold spec_l01In.f
      by_cases h1 : h = 0 ∨ h = 1
      · obtain ⟨m, rfl⟩ : ∃ m, n = m + 1 := ⟨n - 1, by omega⟩
        have hl2 : l.length = 2 * 2 ^ m := by rw [hl, Nat.pow_succ, Nat.mul_comm]
        have hhalf : l.length / 2 = 2 ^ m := by omega
        rw [if_pos (by omega), Option.bind_some, if_pos (by simp; omega), ones_size, show ((l.length : Nat) : Int) / 2 = ((l.length / 2 : Nat) : Int) by omega, w64 (n := ((l.length / 2 : Nat) : Int)) (by omega) (by omega), w64 (n := ((m + 1 : Nat) : Int) - 1) (by omega) (by omega)]
        rcases h1 with h1 | h1
        · subst h1
          rw [Int.zero_mul, w64 (n := 0) (by omega) (by omega), Int.zero_add, w64 (n := ((l.length / 2 : Nat) : Int)) (by omega) (by omega), if_pos (by omega), if_pos (by omega), if_pos (by omega), Int.toNat_natCast, show (0 : Int).toNat = 0 from rfl, ones_extract, flags_ones]
          rfl
        · subst h1
          rw [Int.one_mul, w64 (n := ((l.length / 2 : Nat) : Int)) (by omega) (by omega), w64 (n := ((l.length / 2 : Nat) : Int) + ((l.length / 2 : Nat) : Int)) (by omega) (by omega), if_pos (by omega), if_pos (by omega), if_pos (by omega), Int.toNat_natCast, show (((l.length / 2 : Nat) : Int) + ((l.length / 2 : Nat) : Int)).toNat = l.length by omega, ones_extract, flags_ones, List.take_length]
          rfl
      · have e : (h == 0 || h == 1) = false := by simp; omega
        rw [e]
        by_cases h2 : h ≥ 0
        · rw [if_pos h2, Option.bind_some, if_neg (by simp; omega)]
          rfl
        · rw [if_neg h2, Option.bind_some, if_neg (by decide)]
          rfl
/-- The value of a row of 'for all' (true) and 'there is' (false) over a table. -/
def dec : List Bool → List Bool → Bool
  | [], l => l.getD 0 false
  | a :: r, l => if a then dec r (halfL l false) && dec r (halfL l true) else dec r (halfL l false) || dec r (halfL l true)
theorem dec_const (b : Bool) : ∀ (r l : List Bool), l.length = 2 ^ r.length → l.contains (!b) = false → dec r l = b := by
  intro r
  induction r with
  | nil =>
    intro l hl hc
    match l, hl with
    | [x], _ => cases b <;> cases x <;> simp_all [dec]
  | cons a r ih =>
    intro l hl hc
    have hsub : ∀ h, (halfL l h).contains (!b) = false := by
      intro h
      rw [← Bool.not_eq_true, List.contains_iff_mem] at hc ⊢
      intro hm
      apply hc
      cases h
      · exact List.mem_of_mem_take hm
      · exact List.mem_of_mem_drop hm
    simp only [dec]
    rw [ih _ (halfL_len (by simpa using hl) false) (hsub false), ih _ (halfL_len (by simpa using hl) true) (hsub true)]
    cases a <;> cases b <;> rfl
def b01 (b : Bool) : Int := if b then 1 else 0
theorem impl_decide_eq : ∀ (r l : List Bool), r.length ≤ 12 → l.length = 2 ^ r.length → ∀ k, r.length + 1 < k → impl_decide.f k r (r.length : Int) (ones l) = some (b01 (dec r l)) := by
  intro r
  induction r with
  | nil =>
    intro l _ hl k hk
    obtain ⟨k, rfl⟩ : ∃ m, k = m + 1 := ⟨k - 1, by omega⟩
    simp only [impl_decide.f]
    match l, hl with
    | [x], _ =>
      rw [impl_Table_known_eq, Option.bind_some]
      cases x <;> rfl
  | cons a r ih =>
    intro l hr hl k hk
    obtain ⟨k, rfl⟩ : ∃ m, k = m + 1 := ⟨k - 1, by omega⟩
    simp only [List.length_cons] at hr hl hk
    simp only [impl_decide.f]
    rw [impl_Table_known_eq, Option.bind_some]
    cases h1 : l.contains true
    · rw [show (if false = true then (if l.contains false = true then (-1 : Int) else 1) else 0) = 0 from rfl, if_pos (by decide), dec_const false (a :: r) l hl (by simpa using h1)]
      rfl
    · cases h0 : l.contains false
      · rw [show (if true = true then (if false = true then (-1 : Int) else 1) else 0) = 1 from rfl, if_pos (by decide), dec_const true (a :: r) l hl (by simpa using h0)]
        rfl
      · rw [show (if true = true then (if true = true then (-1 : Int) else 1) else 0) = -1 from rfl, if_neg (by decide), List.length_cons, if_pos (by omega), impl_half_eq r.length l (by omega) hl 0, Option.bind_some, impl_half_eq r.length l (by omega) hl 1]
        simp only [Option.bind_some, List.drop_one, List.tail_cons]
        rw [ih _ (by omega) (halfL_len hl _) k (by omega), ih _ (by omega) (halfL_len hl _) k (by omega)]
        simp only [Option.bind_some]
        rw [if_pos (by omega), show rdOf false (a :: r) 0 = a from rfl]
        simp only [dec]
        have e0 : ((0 : Int) != 0) = false := rfl
        have e1 : ((1 : Int) != 0) = true := rfl
        rw [e0, e1]
        cases a <;> cases dec r (halfL l false) <;> cases dec r (halfL l true) <;> rfl
theorem spec_decide_eq : ∀ (r l : List Bool), r.length ≤ 12 → l.length = 2 ^ r.length → ∀ k, r.length + 4200 < k → spec_l08Decide.f k r (r.length : Int) (ones l) = some (b01 (dec r l)) := by
  intro r
  induction r with
  | nil =>
    intro l _ hl k hk
    obtain ⟨k, rfl⟩ : ∃ m, k = m + 1 := ⟨k - 1, by omega⟩
    simp only [spec_l08Decide.f]
    match l, hl with
    | [x], _ =>
      rw [if_pos (show ((([] : List Bool).length : Nat) : Int) = 0 from rfl), if_pos (by rw [ones_size]; simp), show bt (ones [x]) 0 = sgn x from bt_ones [x] 0 (by simp)]
      cases x <;> decide +kernel
  | cons a r ih =>
    intro l hr hl k hk
    obtain ⟨k, rfl⟩ : ∃ m, k = m + 1 := ⟨k - 1, by omega⟩
    simp only [List.length_cons] at hr hl hk
    have hp := pow12 (n := r.length + 1) (by omega)
    have ht : tok ((r.length + 1 : Nat) : Int) (ones l) = true := tok_ones (by omega) hl
    have h0 : (((r.length + 1 : Nat) : Int) != 0) = true := by rw [bne_iff_ne]; omega
    have hh : ∀ h : Int, (h = 0 ∨ h = 1) → halfT ((r.length + 1 : Nat) : Int) (ones l) h = ((r.length : Int), ones (halfL l (h == 1)), true) := by
      intro h hh
      unfold halfT
      rw [ht, h0, show (h == 0 || h == 1) = true from by simpa using hh, if_pos (by decide), flags_ones, show ((r.length + 1 : Nat) : Int) - 1 = (r.length : Int) by omega]
    simp only [spec_l08Decide.f, List.length_cons]
    rw [if_neg (by omega), spec_Half_eq _ _ 0 (by rw [ones_size]; omega) k (by rw [ones_size]; omega), spec_Half_eq _ _ 1 (by rw [ones_size]; omega) k (by rw [ones_size]; omega), hh 0 (.inl rfl), hh 1 (.inr rfl)]
    simp only [Option.bind_some, List.drop_one, List.tail_cons]
    rw [if_pos (by omega), ih _ (by omega) (halfL_len hl _) k (by omega), ih _ (by omega) (halfL_len hl _) k (by omega)]
    simp only [Option.bind_some]
    rw [if_pos (by omega), show rdOf false (a :: r) 0 = a from rfl]
    simp only [dec]
    have e0 : ((0 : Int) == 1) = false := rfl
    have e1 : ((1 : Int) == 1) = true := rfl
    rw [e0, e1]
    have key : ∀ a b c : Bool, (if a = true then some (Go.bits .and .i64 (b01 b) (b01 c)) else some (Go.bits .or .i64 (b01 b) (b01 c))) = some (b01 (if a = true then b && c else b || c)) := by decide +kernel
    exact key a _ _
/-- What Decide tells. -/
def decT (r : List Bool) (N : Int) (s : ByteArray) : Int × Bool := if tok N s && ((r.length : Int) == N) then (b01 (dec r (flags s)), true) else (0, false)
theorem impl_Decide_eq (r : List Bool) (N : Int) (s : ByteArray) (hs : s.size ≤ 1099511627776) : ∀ k, s.size + 40 < k → impl_Decide.f k r N s = some (decT r N s) := by
  intro k hk
  unfold impl_Decide.f impl_rowed.f decT
  rw [impl_TableOk_eq N s hs k (by omega), Option.bind_some]
  cases ht : tok N s with
  | false => rfl
  | true =>
    obtain ⟨n, l, rfl, hn, hl, rfl⟩ := tok_form ht
    rw [if_pos rfl, Option.bind_some, flags_ones, Bool.true_and]
    by_cases hr : (r.length : Int) = (n : Int)
    · have hr2 : r.length = n := by omega
      subst hr2
      rw [if_pos (by simp), if_pos (by simp), impl_decide_eq r l hn hl k (by omega)]
      rfl
    · rw [if_neg (by simpa using hr), if_neg (by simpa using hr)]
theorem spec_Decide_eq (r : List Bool) (N : Int) (s : ByteArray) (hs : s.size ≤ 1099511627776) : ∀ k, s.size + 4300 < k → spec_Decide.f k r N s = some (decT r N s) := by
  intro k hk
  unfold spec_Decide.f spec_l08Ok.f decT
  rw [spec_TableOk_eq N s hs k (by omega), Option.bind_some]
  cases ht : tok N s with
  | false => rfl
  | true =>
    obtain ⟨n, l, rfl, hn, hl, rfl⟩ := tok_form ht
    rw [if_pos rfl, Option.bind_some, flags_ones, Bool.true_and]
    by_cases hr : (r.length : Int) = (n : Int)
    · have hr2 : r.length = n := by omega
      subst hr2
      rw [if_pos (by simp), if_pos (by simp), spec_decide_eq r l hn hl k (by omega)]
      rfl
    · rw [if_neg (by simpa using hr), if_neg (by simpa using hr)]
/-- What Choose tells. -/
def choT (r : List Bool) (N : Int) (s : ByteArray) : Int × Bool := if tok N s && ((r.length : Int) == N) && (N != 0) then (b01 (dec (r.drop 1) (halfL (flags s) false) != dec r (flags s)), true) else (0, false)
end Go.Proofs.Ytlpfmhikahlcoaa.Pure
/- The program's Decide and the reference's. Conditions: lengths fit. -/
set_option linter.unusedSimpArgs false
set_option linter.unusedVariables false
namespace Go.Proofs.Ytlpfmhikahlcoaa.Pure
open Go.RowKit Go.Proofs.Ytlpfmhikahlcoaa.G Go.Proofs.YtlpfmhikahlcoaaW.PrintWords Go.Proofs.YtlpfmhikahlcoaaW.PrintLast Go.Proofs.YtlpfmhikahlcoaaW.PrintMore

theorem FnExactDecide_pure : ∀ (l0 : List Bool) (a1_0 : Int) (a1_1 : ByteArray), (l0.length ≤ maxLen ∧ ∀ x_ ∈ l0, True) → ((Lit.int .i64 a1_0).wf = true ∧ a1_1.size ≤ maxLen) → ∃ k, laws_FnExactDecide.f k l0 a1_0 a1_1 = some true := by
  intro r N s _ ⟨_, hs⟩
  by_cases hr : (r.length : Int) > 1048576
  · exact ⟨0, by unfold laws_FnExactDecide.f; rw [if_pos hr]⟩
  obtain ⟨k, hk, hk2⟩ : ∃ k, s.size + 5000 < k ∧ r.length < k := ⟨s.size + r.length + 5001, by omega, by omega⟩
  refine ⟨k + 1, ?_⟩
  unfold laws_FnExactDecide.f
  rw [if_neg hr, szTable_eq N s hs, Option.bind_some]
  by_cases h : (s.size : Int) > 1048576
  · rw [if_pos h, if_pos (by decide)]
  · rw [if_neg h, if_neg (by omega)]
    have e1 := spec_Decide_eq r N s (by omega)
    have e2 := impl_Decide_eq r N s (by omega)
    generalize decT r N s = x at e1 e2
    simp only [laws_toTable.f, Option.bind_some, toBoolS_eq r (by omega) (k + 1) (by omega), toBoolS_eq r (by omega) k (by omega), e1 (k + 1) (by omega), e2 (k + 1) (by omega), eqBoolS_self r (by omega) k (by omega), bne_self_eq_false, if_true, laws_FnExactDecide.j0, Bool.false_eq_true, if_false]
end Go.Proofs.Ytlpfmhikahlcoaa.Pure
/- What an argument of a law reads as, told by the print's kinds: a lemma for each shape of type. Conditions: none beyond the lemmas' own hypotheses. -/
namespace Go.Proofs.Ytlpfmhikahlcoaa.Open
open Go.Deep Go.ChangeShapes Go.WideShapes Go.RowKit Go.Proofs.YtlpfmhikahlcoaaW.PrintWords

/-- Whatever reads as data of type t reads by the kind d, and what is read is ok. -/
def Opens {α : Type} (P : Program) (t : TypeId) (d : Kd α) (ok : α → Prop) : Prop :=
  ∀ (H : Type) (enc : TypeId × Value → H) (w : World) (base : Nat) (spare : Nat → Bool) (held : Bool) (fuel : Nat) (cs : List Value) (x : DataW H × List MemPlace),
    DataW.trod enc P w base spare held fuel t cs = some x → ∃ a, d.K w a cs ∧ ok a

def FOpens {α : Type} (P : Program) (fs : List Field) (off : Nat) (d : Kd α) (ok : α → Prop) : Prop :=
  ∀ (H : Type) (enc : TypeId × Value → H) (w : World) (base : Nat) (spare : Nat → Bool) (held : Bool) (fuel : Nat) (cs : List Value),
    (∀ f ∈ fs, ∃ x, DataW.trod enc P w base spare held fuel f.type ((cs.drop f.offset).take (P.cellsOf f.type)) = some x) → ∃ a, d.K w a ((cs.drop off).take d.sz) ∧ ok a

theorem opens_int {P : Program} {t : TypeId} {k : IntKind} (hu : P.underlying t = some (.int k)) : Opens P t (Kd.int k) (fun a => (Lit.int k a).wf = true) := by
  intro H enc w base spare held fuel cs x h
  obtain ⟨n, rfl, _, hw⟩ := DataW.trod_int hu h
  exact ⟨n, rfl, hw⟩
theorem opens_bool {P : Program} {t : TypeId} (hu : P.underlying t = some .bool) : Opens P t Kd.bool (fun _ => True) := by
  intro H enc w base spare held fuel cs x h
  obtain ⟨n, rfl, _⟩ := DataW.trod_bool hu h
  exact ⟨n, rfl, trivial⟩
theorem opens_string {P : Program} {t : TypeId} (hu : P.underlying t = some .string) : Opens P t Kd.string (fun s => s.size ≤ maxLen) := by
  intro H enc w base spare held fuel cs x h
  obtain ⟨n, rfl, _, hw⟩ := DataW.trod_string hu h
  exact ⟨n, rfl, hw⟩
theorem list_of {α : Type} {p : Nat → α → Prop} : ∀ n, (∀ i, i < n → ∃ a, p i a) → ∃ l : List α, l.length = n ∧ ∀ i a, l[i]? = some a → p i a
  | 0, _ => ⟨[], rfl, fun i a h => by simp at h⟩
  | n + 1, h => by
    obtain ⟨l, hl, hp⟩ := list_of n (fun i hi => h i (by omega))
    obtain ⟨a, ha⟩ := h n (by omega)
    refine ⟨l ++ [a], by simp [hl], fun i b hb => ?_⟩
    rw [List.getElem?_append] at hb
    split at hb
    · exact hp i b hb
    · rename_i hi
      have e : i = n := by
        rcases Nat.lt_or_ge (i - l.length) 1 with h1 | h1
        · omega
        · rw [List.getElem?_eq_none (by simpa using h1)] at hb
          cases hb
      subst e
      rw [hl, Nat.sub_self] at hb
      cases hb
      exact ha
theorem opens_slice {α : Type} {P : Program} {t e : TypeId} {d : Kd α} {ok : α → Prop} (hu : P.underlying t = some (.slice e)) (hc : P.cellsOf e = d.sz) (h : Opens P e d ok) :
    Opens P t (Kd.slice e d) (fun l => l.length ≤ maxLen ∧ ∀ x ∈ l, ok x) := by
  intro H enc w base spare held fuel cs x hx
  rcases open_slice hu hx with ⟨rfl, rfl⟩ | ⟨a, len, cap, m, n, D, Pl, rfl, hb, hl, hm, hmm, rfl, hel⟩
  · exact ⟨[], ⟨none, 0, rfl, Nat.le_refl _, rfl, by simp, fun h => absurd h (by simp)⟩, by simp [maxLen], by simp⟩
  · have hle : len ≤ m := by rw [hmm]; split <;> omega
    have hone : ∀ i, i < len → ∃ y : α, (∃ cs', w.cells? base (a.add (i * P.cellsOf e)) (P.cellsOf e) = some cs' ∧ d.K w y cs') ∧ ok y := by
      intro i hi
      obtain ⟨cs', h1, h2⟩ := hel i (by omega)
      obtain ⟨y, hk, ho⟩ := h H enc w base spare held n cs' _ h2
      exact ⟨y, ⟨cs', h1, hk⟩, ho⟩
    obtain ⟨l, hll, hp⟩ := list_of len hone
    subst hll
    refine ⟨l, ⟨some a, cap, rfl, hl, rfl, by simp only [maxLen] at hm; omega, fun _ => ⟨a, rfl, fun j p hj => ?_⟩⟩, by omega, ?_⟩
    · obtain ⟨⟨cs', h1, hk⟩, _⟩ := hp j p hj
      refine ⟨cs', d.K_len hk, hk, fun i u hu => ?_⟩
      have hlt : i < cs'.length := by
        rcases Nat.lt_or_ge i cs'.length with h' | h'
        · exact h'
        · rw [List.getElem?_eq_none h'] at hu; cases hu
      have hlen := d.K_len hk
      obtain ⟨_, hlen2, hcell⟩ := World.cells?_some h1
      rw [hc] at hcell
      have := hcell i (by omega)
      rw [hu] at this
      rw [← Addr.add_add]
      exact this.symm ▸ rfl
    · intro x hx
      obtain ⟨i, hi, rfl⟩ := List.getElem_of_mem hx
      exact (hp i _ (List.getElem?_eq_getElem hi)).2
theorem fopens_one {α : Type} {P : Program} {f : Field} {off : Nat} {d : Kd α} {ok : α → Prop} (ho : f.offset = off) (hc : P.cellsOf f.type = d.sz) (h : Opens P f.type d ok) : FOpens P [f] off d ok := by
  intro H enc w base spare held fuel cs hx
  obtain ⟨x, hx⟩ := hx f (by simp)
  rw [ho, hc] at hx
  exact h H enc w base spare held fuel _ x hx
theorem fopens_cons {α β : Type} {P : Program} {f : Field} {fs : List Field} {off : Nat} {d : Kd α} {d' : Kd β} {ok : α → Prop} {ok' : β → Prop} (ho : f.offset = off) (hc : P.cellsOf f.type = d.sz) (h : Opens P f.type d ok)
    (hs : FOpens P fs (off + d.sz) d' ok') : FOpens P (f :: fs) off (Kd.pair d d') (fun x => ok x.1 ∧ ok' x.2) := by
  intro H enc w base spare held fuel cs hx
  obtain ⟨a, ha, hoa⟩ := fopens_one ho hc h H enc w base spare held fuel cs (fun g hg => hx g (by simp at hg; simp [hg]))
  obtain ⟨b, hb, hob⟩ := hs H enc w base spare held fuel cs (fun g hg => hx g (by simp [hg]))
  refine ⟨(a, b), ⟨_, _, ?_, ha, hb⟩, hoa, hob⟩
  show (cs.drop off).take (d.sz + d'.sz) = _
  rw [List.take_add, List.drop_drop]
theorem opens_struct {α : Type} {P : Program} {t : TypeId} {fs : Array Field} {d : Kd α} {ok : α → Prop} (hu : P.underlying t = some (.struct fs)) (hc : P.cellsOf t = d.sz) (h : FOpens P fs.toList 0 d ok) : Opens P t d ok := by
  intro H enc w base spare held fuel cs x hx
  obtain ⟨xs, n, rfl, _, hlen, hxl, hf⟩ := DataW.trod_struct hu hx
  have := h H enc w base spare held n cs (fun f hm => by
    obtain ⟨i, hi, rfl⟩ := List.getElem_of_mem hm
    have hi' : i < fs.size := by simpa using hi
    have e := hf i fs[i] (Array.getElem?_eq_getElem hi')
    rw [List.getElem?_eq_getElem (show i < xs.length by omega)] at e
    exact ⟨_, by simpa using e⟩)
  rw [List.drop_zero, List.take_of_length_le (by omega)] at this
  exact this
theorem opens_iso {α β : Type} {P : Program} {t : TypeId} {d : Kd α} {ok : α → Prop} (f : β → α) (g : α → β) (hfg : ∀ a, f (g a) = a) (h : Opens P t d ok) : Opens P t (Kd.iso d f) (fun x => ok (f x)) := by
  intro H enc w base spare held fuel cs x hx
  obtain ⟨a, ha, ho⟩ := h H enc w base spare held fuel cs x hx
  exact ⟨g a, by show d.K w (f (g a)) cs; rw [hfg]; exact ha, by show ok (f (g a)); rw [hfg]; exact ho⟩
/-- A struct's value is its cells. -/
theorem agg_of_cells {P : Program} {w : World} {r : Reach} {base : Nat} {t : TypeId} {fs : Array Field} {v : Value} {cs : List Value} (hu : P.underlying t = some (.struct fs)) (hv : Value.okWide P w r base t v) (hc : v.cells.toList = cs) : v = .agg cs.toArray := by
  obtain ⟨c, rfl, _⟩ := okWide_struct hu hv
  simp only [Value.cells] at hc
  subst hc
  simp
end Go.Proofs.Ytlpfmhikahlcoaa.Open
/- The statement FnExactDecideSaid of the law FnExactDecide: for every input the call returns true and its arguments read as before. Conditions: none. (Written by a program of this session: wip/gen/row.py.) -/
namespace Go.Proofs.Ytlpfmhikahlcoaa.fnExactDecide
open Go.ChangeShapes Go.WideShapes Go.ChangeAt Go.RowKit Go.Proofs.Ytlpfmhikahlcoaa.Open Go.Proofs.Ytlpfmhikahlcoaa.G Go.Proofs.YtlpfmhikahlcoaaW.PrintWords
open Go.ChangeMaps (open_string shut_string)
set_option linter.unusedVariables false
theorem own : ownKnob Try.prog.godebug = none := by kernel_rfl
theorem laidOut : laidOutB Try.prog = true := by kernel_rfl
set_option maxRecDepth 100000 in
theorem lifted (os : Os) (started : os.Started) (H : Type) (enc : TypeId × Value → H) :
    ReturnsInHanded {} Try.checked os 3 .any (Rows.fnExactDecideSpec.pre6 enc Try.prog Try.f3 Rows.fnExactDecideRow.domain false) (Rows.fnExactDecideSpec.post enc Try.prog Try.f3 false true false false) := by
  refine returnsInHanded_of_change (C := Try.checked) own started (by kernel_rfl) Try.func3
    (ChangeSpec.witness6 (enc := enc) (C := Try.checked) false ⟨#[], #[.slice none 0 0, .agg #[.int .i64 0, .string ByteArray.empty]], []⟩ 8 (by kernel_rfl) (by kernel_rfl) (by kernel_rfl) (by kernel_rfl)) ?_
  intro W base args ds gs before hval0 hW hcnd _
  have hval : ∀ (j : Nat) t v, Try.f3.params[j]? = some t → args[j]? = some v → Value.okWide Try.prog W .any base t v := hval0
  have hW' := hW
  obtain ⟨p, q, hA0, hV, rfl, hfz, hnd⟩ := hW
  have hA : DataW.TrodAll enc Try.prog W 0 (fun _ => true) true Try.f3.params.toList args.toList ds p := hA0
  rw [Try.params3] at hA hval
  obtain ⟨v0, vs0, d0, ds0, p0, q0, hargs, rfl, rfl, h0, r0⟩ := trodAll_cons hA
  obtain ⟨v1, vs1, d1, ds1, p1, q1, rfl, rfl, rfl, h1, r1⟩ := trodAll_cons r0
  obtain ⟨rfl, rfl, rfl⟩ := trodAll_nil r1
  obtain rfl : args = #[v0, v1] := by cases args; simp_all
  obtain ⟨rfl, rfl⟩ := trodVars_none hV
  have k0 := h0
  have lt0 : ∀ x ∈ p0, x.block < W.heap.size := by obtain ⟨m, hm⟩ := k0; exact DataW.trod_lt m _ _ _ hm
  obtain ⟨fu0, hf0⟩ := h0
  obtain ⟨a0, len0, cap0, rfl⟩ := okWide_slice Try.underlying22 (hval 0 22 v0 rfl rfl)
  obtain ⟨l0, hk0, ok0⟩ := (opens_slice (d := Kd.bool) Try.underlying22 (by kernel_rfl) (opens_bool Try.underlying4)) _ enc W 0 _ true fu0 _ _ hf0
  obtain ⟨A0, c0, hcs0, hc0, hr0⟩ := hk0
  simp [Value.cells] at hcs0
  obtain ⟨rfl, rfl, rfl⟩ := hcs0
  have k1 := h1
  have lt1 : ∀ x ∈ p1, x.block < W.heap.size := by obtain ⟨m, hm⟩ := k1; exact DataW.trod_lt m _ _ _ hm
  obtain ⟨fu1, hf1⟩ := h1
  obtain ⟨⟨a1_0, a1_1⟩, hk1, ok1⟩ := (opens_struct Try.underlying24 (by kernel_rfl) (fopens_cons rfl (by kernel_rfl) (opens_int Try.underlying3) (fopens_one rfl (by kernel_rfl) (opens_string Try.underlying9)))) _ enc W 0 _ true fu1 _ _ hf1
  generalize hcs1 : v1.cells.toList = cs1 at hk1
  obtain ⟨_, _, rfl, rfl, rfl⟩ := hk1
  obtain rfl := agg_of_cells Try.underlying24 (hval 1 24 v1 rfl rfl) hcs1
  clear hA0 hval0
  obtain ⟨k, hk⟩ := Pure.FnExactDecide_pure l0 a1_0 a1_1 ok0 ok1
  refine (laws_FnExactDecide.calls k _ _ l0 a1_0 a1_1 true W hr0 hc0 rfl hk).mono fun e W' ⟨he, bel0⟩ => ?_
  have bel : Below W.heap.size W W' := bel0
  subst he
  exact ⟨_, rfl, _, _, _, [], _, [], hW', trodAll_mk1 (shut_bool Try.underlying4 _), (trodAll_cons_mk (Below.trod laidOut (by kernel_rfl) (of_decide_eq_true (by kernel_rfl)) k0 bel lt0) (trodAll_cons_mk (Below.trod laidOut (by kernel_rfl) (of_decide_eq_true (by kernel_rfl)) k1 bel lt1) trodAll_mk0)), rfl, bel.frame _, fun h => by cases h⟩
theorem over : Rows.fnExactDecideRow.holds Try.pinned (OpenSpec.ofChange Rows.fnExactDecideSpec) :=
  OpenClaim.holds_of_wide 3 Try.f3 rfl rfl rfl rfl rfl rfl rfl ⟨rfl, rfl, rfl, rfl, rfl⟩ rfl rfl rfl rfl rfl (by kernel_rfl) Try.func3 (by kernel_rfl)
    (of_decide_eq_true (by kernel_rfl)) (by unfold Func.isWrapper; first | (rw [if_pos (by decide +kernel)]; kernel_rfl) | (rw [if_neg (by decide +kernel)]; exact ⟨rfl, rfl⟩))
    (fun os started H enc _ => lifted os started H enc)
theorem proved : Rows.FnExactDecideSaid := over
end Go.Proofs.Ytlpfmhikahlcoaa.fnExactDecide
namespace Go.Proofs.Ytlpfmhikahlcoaa
/-- The given statement. -/
theorem fnExactDecide_holds : Rows.FnExactDecideSaid := fnExactDecide.proved
#print axioms fnExactDecide_holds
end Go.Proofs.Ytlpfmhikahlcoaa
