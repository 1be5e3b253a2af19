-- texts of this session, merged by a program of it (wip/gen/pack.py)
import Derived.Test.YteagogcpbcickaaKFnWires12
import Derived.Test.YteagogcpbcickaaKFnWires2
import Derived.Test.YteagogcpbcickaaKFnWires11
import Derived.Test.YteagogcpbcickaaKFnWires4
import Derived.Test.YteagogcpbcickaaKFnWires3
import Derived.Test.YteagogcpbcickaaKFnWires5
import Derived.Test.YteagogcpbcickaaKFnWires6
import Derived.Test.YteagogcpbcickaaKFnWires7
import Derived.Laws.BitsLemmas
import Derived.Shelf.Strings.Search3
import Derived.Shelf.Strings.Count
import Derived.Test.YteagogcpbcickaaProg
import Derived.Lib.IndexAny
import Derived.Test.YteagogcpbcickaaKFnWires8
import Derived.Test.YteagogcpbcickaaKFnWires9
import Derived.Test.YteagogcpbcickaaKFnWires10
import Derived.ProofKit
import Derived.WalkKit
import Derived.Deep.Slices
import Derived.OpenShut
import Derived.ChangeVars
import Derived.ChangeOld
import Derived.Below
import Derived.Test.YteagogcpbcickaaKFnWires1
import Derived.Test.YteagogcpbcickaaRows
import Derived.ShutString
set_option linter.unusedSimpArgs false
set_option linter.unusedVariables false
namespace Go.Proofs.Yteagogcpbcickaa.Pure
open Go.RowKit Go.Proofs.Yteagogcpbcickaa.G Go.Proofs.YteagogcpbcickaaW.PrintWords Go.Proofs.YteagogcpbcickaaW.PrintLast Go.Proofs.YteagogcpbcickaaW.PrintMore
def WfA (L : List S79) : Prop := ∀ x ∈ L, (Lit.int .i64 x.f0).wf = true ∧ (Lit.int .i64 x.f1).wf = true
theorem rdA_nat (L : List S79) (i : Nat) : rd_T79 L (i : Int) = L.getD i z79 := by unfold rd_T79; simp
theorem rdA_wf {L : List S79} (h : WfA L) {i : Nat} (hi : i < L.length) : (Lit.int .i64 (rd_T79 L i).f0).wf = true ∧ (Lit.int .i64 (rd_T79 L i).f1).wf = true := by
  rw [rdA_nat, getD_lt L i _ hi]
  exact h _ (List.getElem_mem hi)
theorem and_ext {x y : S79} (h0 : x.f0 = y.f0) (h1 : x.f1 = y.f1) : x = y := by cases x; cases y; simp_all
theorem mem_take_rd (L : List S79) (i : Nat) (hi : i ≤ L.length) (x : S79) : x ∈ L.take i ↔ ∃ j, j < i ∧ rd_T79 L (j : Int) = x := by
  rw [List.mem_iff_getElem]
  constructor
  · rintro ⟨j, hj, rfl⟩
    have hj' : j < i := by simp at hj; omega
    exact ⟨j, hj', by rw [rdA_nat, getD_lt L j _ (by omega)]; simp⟩
  · rintro ⟨j, hj, rfl⟩
    exact ⟨j, by simp; omega, by rw [rdA_nat, getD_lt L j _ (by omega)]; simp⟩
theorem spec_l1_ev (ins : Int) (L : List S79) (hl : L.length ≤ 3000) (i : Nat) (hi : i < L.length) (r : Bool) (bad : rd_T79 L (i : Int) ∈ L.take i → r = false)
    (go : rd_T79 L (i : Int) ∉ L.take i → Ev (fun k => spec_GraphOk.l0 k ((i + 1 : Nat) : Int) ins L) r) : Ev (fun k => spec_GraphOk.l1 k (i : Int) 0 ins L) r := by
  have h : ∀ d j, j + d = i → (∀ q, q < j → rd_T79 L (q : Int) ≠ rd_T79 L (i : Int)) → Ev (fun k => spec_GraphOk.l1 k (i : Int) (j : Int) ins L) r := by
    intro d
    induction d with
    | zero =>
      intro j hj hq
      obtain rfl : j = i := by omega
      refine ev_step (f := fun k => spec_GraphOk.l0 k ((j + 1 : Nat) : Int) ins L) (fun k => ?_) (go (fun hm => ?_))
      · simp only [spec_GraphOk.l1]
        rw [if_neg (by omega), w64s j (by omega)]
      · obtain ⟨q, h1, h2⟩ := (mem_take_rd L j (by omega) _).1 hm
        exact hq q h1 h2
    | succ d ih =>
      intro j hj hq
      by_cases he : rd_T79 L (j : Int) = rd_T79 L (i : Int)
      · rw [bad ((mem_take_rd L i (by omega) _).2 ⟨j, by omega, he⟩)]
        refine ev_step (f := fun k => some false) (fun k => ?_) (ev_some _)
        simp only [spec_GraphOk.l1]
        rw [if_pos (by omega), if_pos (by omega), if_pos (by omega), if_pos (by omega), if_pos (by omega), if_pos (by rw [he]; simp)]
      · refine ev_step (f := fun k => spec_GraphOk.l1 k (i : Int) ((j + 1 : Nat) : Int) ins L) (fun k => ?_) (ih (j + 1) (by omega) (fun q hq' => ?_))
        · simp only [spec_GraphOk.l1]
          rw [if_pos (by omega), if_pos (by omega), if_pos (by omega), if_pos (by omega), if_pos (by omega), if_neg (fun hh => he ?_), w64s j (by omega)]
          simp only [Bool.and_eq_true, beq_iff_eq] at hh
          exact and_ext hh.1 hh.2
        · rcases Nat.lt_succ_iff_lt_or_eq.1 hq' with h1 | rfl
          · exact hq q h1
          · exact he
  have := h i 0 (by omega) (fun q hq => by omega)
  exact this
theorem tdiv2 {x : Int} (h : (Lit.int .i64 x).wf = true) : wrap64 (Int.tdiv x 2) = Int.tdiv x 2 := by
  have := wfi h
  have h2 : -9223372036854775808 ≤ Int.tdiv x 2 ∧ Int.tdiv x 2 ≤ 9223372036854775807 := by
    rw [Int.tdiv_eq_ediv]
    have h2 : Int.sign 2 = 1 := rfl
    split <;> omega
  exact w64 h2.1 h2.2
theorem spec_GraphOk_ev (ins : Int) (L : List S79) (hL : WfA L) (hins : (Lit.int .i64 ins).wf = true) : Ev (fun k => spec_GraphOk.f k ins L) (decide (GOk ins L)) := by
  have hj0t : ∀ b : Bool, b = true → ¬ GOk ins L → Ev (fun k => spec_GraphOk.j0 k b ins L) (decide (GOk ins L)) := by
    intro b hb hG
    rw [decide_eq_false hG]
    refine ev_step (f := fun _ => some false) (fun k => ?_) (ev_some _)
    simp only [spec_GraphOk.j0]
    rw [if_pos hb]
  refine ev_eq (f := fun k => if 0 ≤ ins ∧ ins ≤ 12 then spec_GraphOk.j0 k (decide ((L.length : Int) > 3000)) ins L else spec_GraphOk.j0 k true ins L) (fun k => ?_) ?_
  · unfold spec_GraphOk.f spec_l01In.f
    by_cases h0 : ins ≥ 0
    · rw [if_pos h0, Option.bind_some]
      by_cases h1 : ins ≤ 12
      · rw [if_pos (by simpa using h1), if_pos ⟨h0, h1⟩]
      · rw [if_neg (by simpa using h1), if_neg (fun h => h1 h.2)]
    · rw [if_neg h0, Option.bind_some, if_neg (by decide), if_neg (fun h => h0 h.1)]
  by_cases hin : 0 ≤ ins ∧ ins ≤ 12
  · simp only [if_pos hin]
    by_cases hlen : L.length ≤ 3000
    · rw [show decide ((L.length : Int) > 3000) = false from decide_eq_false (by omega)]
      refine ev_step (f := fun k => spec_GraphOk.l0 k ((0 : Nat) : Int) ins L) (fun k => by simp only [spec_GraphOk.j0]; rw [if_neg (by decide)]; rfl) ?_
      have hok : ∀ d i, i + d = L.length → (∀ j, j < i → okAnd ins L j) → Ev (fun k => spec_GraphOk.l0 k (i : Int) ins L) (decide (GOk ins L)) := by
        intro d
        induction d with
        | zero =>
          intro i hi hall
          rw [decide_eq_true (show GOk ins L from ⟨hin, hlen, fun j hj => hall j (by omega)⟩)]
          refine ev_step (f := fun _ => some true) (fun k => ?_) (ev_some _)
          simp only [spec_GraphOk.l0]
          rw [if_neg (by omega)]
        | succ d ih =>
          intro i hi hall
          have hlt : i < L.length := by omega
          obtain ⟨w0, w1⟩ := rdA_wf hL hlt
          have b0 := wfi w0
          have b1 := wfi w1
          have t0 := tdiv2 w0
          have t1 := tdiv2 w1
          have hq : wrap64 (ins + (i : Int)) = ins + i := w64 (by omega) (by omega)
          have bad : ¬ okAnd ins L i → Ev (fun k => spec_GraphOk.j2 k (i : Int) true ins L) (decide (GOk ins L)) := by
            intro hn
            rw [decide_eq_false (fun h : GOk ins L => hn (h.2.2 i hlt))]
            refine ev_step (f := fun _ => some false) (fun k => ?_) (ev_some _)
            simp only [spec_GraphOk.j2]
            rw [if_pos trivial]
          by_cases c1 : (rd_T79 L (i : Int)).f0 < 2
          · refine ev_step (fun k => ?_) (bad (fun h => h.1 c1))
            simp only [spec_GraphOk.l0]
            rw [if_pos (by omega), if_pos (by omega), if_pos c1]
          by_cases c2 : (rd_T79 L (i : Int)).f1 ≤ (rd_T79 L (i : Int)).f0
          · refine ev_step (fun k => ?_) (bad (fun h => h.2.1 c2))
            simp only [spec_GraphOk.l0]
            rw [if_pos (by omega), if_pos (by omega), if_neg c1, if_pos c2]
          have e0 : Int.tdiv (rd_T79 L (i : Int)).f0 2 = (rd_T79 L (i : Int)).f0 / 2 := Int.tdiv_eq_ediv_of_nonneg (by omega)
          have e1 : Int.tdiv (rd_T79 L (i : Int)).f1 2 = (rd_T79 L (i : Int)).f1 / 2 := Int.tdiv_eq_ediv_of_nonneg (by omega)
          by_cases c3 : wrap64 (Int.tdiv (rd_T79 L (i : Int)).f1 2) > wrap64 (ins + (i : Int))
          · refine ev_step (fun k => ?_) (bad (fun h => by
              have := h.2.2.2.1
              rw [t1, e1, hq] at c3
              omega))
            simp only [spec_GraphOk.l0]
            rw [if_pos (by omega), if_pos (by omega), if_neg c1, if_neg c2, if_pos c3]
          have c3' : (rd_T79 L (i : Int)).f1 < 2 * (ins + 1 + i) := by rw [t1, e1, hq] at c3; omega
          have hl0 : ∀ k, spec_GraphOk.l0 (k + 1) (i : Int) ins L = spec_GraphOk.j2 k (i : Int) (wrap64 (Int.tdiv (rd_T79 L (i : Int)).f1 2) == wrap64 (Int.tdiv (rd_T79 L (i : Int)).f0 2)) ins L := by
            intro k
            simp only [spec_GraphOk.l0]
            rw [if_pos (by omega), if_pos (by omega), if_neg c1, if_neg c2, if_neg c3]
          refine ev_step hl0 ?_
          by_cases c4 : wrap64 (Int.tdiv (rd_T79 L (i : Int)).f1 2) = wrap64 (Int.tdiv (rd_T79 L (i : Int)).f0 2)
          · rw [beq_iff_eq.2 c4]
            exact bad (fun h => h.2.2.1 c4.symm)
          · rw [beq_eq_false_iff_ne.2 c4]
            refine ev_step (f := fun k => spec_GraphOk.l1 k (i : Int) 0 ins L) (fun k => by simp only [spec_GraphOk.j2]; rw [if_neg (by decide)]) ?_
            refine spec_l1_ev ins L hlen i hlt _ (fun hm => ?_) (fun hm => ih (i + 1) (by omega) (fun j hj => ?_))
            · exact decide_eq_false (fun h : GOk ins L => (h.2.2 i hlt).2.2.2.2 hm)
            · rcases Nat.lt_succ_iff_lt_or_eq.1 hj with h1 | rfl
              · exact hall j h1
              · exact ⟨c1, c2, fun h => c4 h.symm, c3', hm⟩
      exact hok L.length 0 (by omega) (fun j hj => by omega)
    · exact hj0t _ (decide_eq_true (by omega)) (fun h => hlen h.2.1)
  · simp only [if_neg hin]
    exact hj0t _ rfl (fun h => hin h.1)
end Go.Proofs.Yteagogcpbcickaa.Pure
set_option linter.unusedSimpArgs false
set_option linter.unusedVariables false
namespace Go.Proofs.Yteagogcpbcickaa.Pure
open Go.RowKit Go.Proofs.Yteagogcpbcickaa.G Go.Proofs.Yteagogcpbcickaa.Mp Go.Proofs.YteagogcpbcickaaW.PrintWords Go.Proofs.YteagogcpbcickaaW.PrintLast Go.Proofs.YteagogcpbcickaaW.PrintMore
theorem turn_turn {x : Int} (h : 0 ≤ x ∧ x ≤ 1048575) : Go.bits .xor .i64 (Go.bits .xor .i64 x 1) 1 = x := by
  obtain ⟨n, rfl⟩ := Int.eq_ofNat_of_zero_le h.1
  have h1 := xor_nat n 1 (by omega) (by decide)
  rw [show ((1 : Nat) : Int) = 1 from rfl] at h1
  have h2 := Nat.xor_lt_two_pow (x := n) (y := 1) (n := 20) (by omega) (by decide)
  have h3 := xor_nat (n ^^^ 1) 1 (by omega) (by decide)
  rw [show ((1 : Nat) : Int) = 1 from rfl] at h3
  rw [h1, h3, Nat.xor_assoc, Nat.xor_self, Nat.xor_zero]
def Dist (L : List S79) : Prop := ∀ i j : Nat, i < j → j < L.length → rd_T79 L (i : Int) ≠ rd_T79 L (j : Int)
theorem GOk.dist {ins : Int} {L : List S79} (h : GOk ins L) : Dist L := by
  intro i j hij hj he
  obtain ⟨_, _, _, _, h5⟩ := h.2.2 j hj
  exact h5 ((mem_take_rd L j (by omega) _).2 ⟨i, hij, he⟩)
theorem mhas_iff {κ : Type} [DecidableEq κ] (x : κ) : ∀ l : List (κ × Int), mhas l x = true ↔ ∃ p ∈ l, p.1 = x := by
  intro l
  induction l with
  | nil => simp [mhas]
  | cons a r ih =>
    unfold mhas
    by_cases h : a.1 = x
    · rw [if_pos h]; simp [h]
    · rw [if_neg h, ih]; simp [h]
theorem mget_of {κ : Type} [DecidableEq κ] (x : κ) (v : Int) : ∀ l : List (κ × Int), (∀ q ∈ l, q.1 = x → q.2 = v) → (∃ p ∈ l, p.1 = x) → mget l x = v := by
  intro l
  induction l with
  | nil => intro _ h; obtain ⟨p, hp, _⟩ := h; cases hp
  | cons a r ih =>
    intro h1 h2
    unfold mget
    by_cases h : a.1 = x
    · rw [if_pos h]; exact h1 a (by simp) h
    · rw [if_neg h]
      refine ih (fun q hq => h1 q (by simp [hq])) ?_
      obtain ⟨p, hp, he⟩ := h2
      rcases List.mem_cons.1 hp with rfl | hp
      · exact absurd he h
      · exact ⟨p, hp, he⟩
theorem mem_at (ins : Int) (L : List S79) (p : S79 × Int) : p ∈ atMap ins L ↔ ∃ i : Nat, i < L.length ∧ p = (rd_T79 L (i : Int), 2 * (ins + 1 + (i : Int))) := by
  simp only [atMap, List.mem_reverse, List.mem_map, List.mem_range]
  constructor
  · rintro ⟨i, hi, rfl⟩; exact ⟨i, hi, rfl⟩
  · rintro ⟨i, hi, rfl⟩; exact ⟨i, hi, rfl⟩
theorem at_found {ins : Int} {L : List S79} (hD : Dist L) {i : Nat} (hi : i < L.length) {K : S79} (h : rd_T79 L (i : Int) = K) : mhas (atMap ins L) K = true ∧ mget (atMap ins L) K = 2 * (ins + 1 + (i : Int)) := by
  have hp : (K, 2 * (ins + 1 + (i : Int))) ∈ atMap ins L := (mem_at ins L _).2 ⟨i, hi, by rw [h]⟩
  refine ⟨(mhas_iff K _).2 ⟨_, hp, rfl⟩, mget_of K _ _ (fun q hq he => ?_) ⟨_, hp, rfl⟩⟩
  obtain ⟨j, hj, rfl⟩ := (mem_at ins L q).1 hq
  have : i = j := by
    rcases Nat.lt_trichotomy i j with h1 | h1 | h1
    · exact absurd (h.trans he.symm) (hD i j h1 hj)
    · exact h1
    · exact absurd (he.trans h.symm) (hD j i h1 hi)
  rw [this]
theorem at_none {ins : Int} {L : List S79} {K : S79} (h : ∀ i : Nat, i < L.length → rd_T79 L (i : Int) ≠ K) : mhas (atMap ins L) K = false := by
  rw [Bool.eq_false_iff]
  intro hm
  obtain ⟨p, hp, he⟩ := (mhas_iff K _).1 hm
  obtain ⟨i, hi, rfl⟩ := (mem_at ins L p).1 hp
  exact h i hi he
theorem Dist.app {L : List S79} {K : S79} (hD : Dist L) (h : ∀ i : Nat, i < L.length → rd_T79 L (i : Int) ≠ K) : Dist (L ++ [K]) := by
  intro i j hij hj
  rw [List.length_append, List.length_singleton] at hj
  rw [rd_app L K i (by omega)]
  by_cases hjl : j < L.length
  · rw [rd_app L K j hjl]; exact hD i j hij hjl
  · have : j = L.length := by omega
    subst this
    rw [rd_last]
    exact h i hij
theorem andR_dist {ins : Int} {L : List S79} (hD : Dist L) (x y : Int) : Dist (andR ins L x y).1 := by
  unfold andR
  split; exact hD
  split; exact hD
  split; exact hD
  split; exact hD
  split; exact hD
  split; exact hD
  split; exact hD
  rename_i hm
  split; exact hD
  refine hD.app fun i hi he => hm (at_found hD hi he).1
theorem orR_dist {ins : Int} {L : List S79} (hD : Dist L) (x y : Int) : Dist (orR ins L x y).1 := andR_dist hD _ _
theorem spec_find_ev {ins : Int} {L : List S79} (hin : 0 ≤ ins ∧ ins ≤ 1000) (hL : L.length ≤ 3000) (hD : Dist L) (a b : Int) :
    Ev (fun k => spec_l07And.l0 k a b 0 ins L) (if mhas (atMap ins L) ⟨a, b⟩ = true then (ins, L, mget (atMap ins L) ⟨a, b⟩) else if 3000 ≤ L.length then (ins, L, -1) else (ins, L ++ [⟨a, b⟩], 2 * (ins + 1 + L.length))) := by
  have hs : ∀ d i, i + d = L.length → (∀ j : Nat, j < i → rd_T79 L (j : Int) ≠ ⟨a, b⟩) → Ev (fun k => spec_l07And.l0 k a b (i : Int) ins L) (if mhas (atMap ins L) ⟨a, b⟩ = true then (ins, L, mget (atMap ins L) ⟨a, b⟩) else if 3000 ≤ L.length then (ins, L, -1) else (ins, L ++ [⟨a, b⟩], 2 * (ins + 1 + L.length))) := by
    intro d
    induction d with
    | zero =>
      intro i hi hn
      rw [at_none (fun j hj => hn j (by omega)), if_neg (by decide)]
      by_cases h3 : 3000 ≤ L.length
      · rw [if_pos h3]
        refine ev_step (f := fun _ => some (ins, L, -1)) (fun k => ?_) (ev_some _)
        simp only [spec_l07And.l0]
        rw [if_neg (by omega), if_pos (by omega)]
      · rw [if_neg h3]
        refine ev_step (f := fun _ => some (ins, L ++ [⟨a, b⟩], 2 * (ins + 1 + L.length))) (fun k => ?_) (ev_some _)
        simp only [spec_l07And.l0]
        rw [if_neg (by omega), if_neg (by omega), if_pos (by omega), Option.bind_some, List.length_append, List.length_singleton, w64 (n := ins + ((L.length + 1 : Nat) : Int)) (by omega) (by omega), w64 (by omega) (by omega), show 2 * (ins + ((L.length + 1 : Nat) : Int)) = 2 * (ins + 1 + L.length) from by omega]
    | succ d ih =>
      intro i hi hn
      by_cases he : rd_T79 L (i : Int) = ⟨a, b⟩
      · obtain ⟨h1, h2⟩ := at_found (ins := ins) hD (by omega : i < L.length) he
        rw [h1, if_pos rfl, h2]
        refine ev_step (f := fun _ => some (ins, L, 2 * (ins + 1 + (i : Int)))) (fun k => ?_) (ev_some _)
        simp only [spec_l07And.l0]
        rw [if_pos (by omega), if_pos (by omega), if_pos (by rw [he]), if_pos (by rw [he]), w64 (n := ins + 1) (by omega) (by omega), w64 (n := ins + 1 + (i : Int)) (by omega) (by omega), w64 (by omega) (by omega)]
      · refine ev_step (f := fun k => spec_l07And.l0 k a b ((i + 1 : Nat) : Int) ins L) (fun k => ?_) (ih (i + 1) (by omega) (fun j hj => ?_))
        · simp only [spec_l07And.l0]
          rw [if_pos (by omega), if_pos (by omega), w64s i (by omega)]
          by_cases h0 : (rd_T79 L (i : Int)).f0 = a
          · rw [if_pos h0, if_neg (fun h1 => he (and_ext h0 h1))]
          · rw [if_neg h0]
        · rcases Nat.lt_succ_iff_lt_or_eq.1 hj with h | rfl
          · exact hn j h
          · exact he
  have := hs L.length 0 (by omega) (fun j hj => by omega)
  exact this
theorem spec_and_le {ins : Int} {L : List S79} (hin : 0 ≤ ins ∧ ins ≤ 1000) (hL : L.length ≤ 3000) (hD : Dist L) {a b : Int} (ha : 0 ≤ a ∧ a ≤ 1048575) (hb : 0 ≤ b ∧ b ≤ 1048575) (hab : a ≤ b) :
    Ev (fun k => spec_l07And.f k ins L a b) (if a = 0 then (ins, L, 0) else if a = Go.bits .xor .i64 b 1 then (ins, L, 0) else if a = 1 then (ins, L, b) else if a = b then (ins, L, b) else
      if mhas (atMap ins L) ⟨a, b⟩ = true then (ins, L, mget (atMap ins L) ⟨a, b⟩) else if 3000 ≤ L.length then (ins, L, -1) else (ins, L ++ [⟨a, b⟩], 2 * (ins + 1 + L.length))) := by
  have hj : ∀ t : Bool, t = true → Ev (fun k => spec_l07And.j0 k a b t ins L) (ins, L, 0) := by
    rintro _ rfl
    refine ev_step (f := fun _ => some (ins, L, 0)) (fun k => ?_) (ev_some _)
    simp only [spec_l07And.j0]
    exact if_pos trivial
  by_cases h0 : a = 0
  · rw [if_pos h0]
    refine ev_step (fun k => ?_) (hj true rfl)
    simp only [spec_l07And.f]
    rw [if_neg (by omega), if_pos h0]
  rw [if_neg h0]
  by_cases h1 : a = Go.bits .xor .i64 b 1
  · rw [if_pos h1]
    refine ev_step (fun k => ?_) (hj (a == Go.bits .xor .i64 b 1) (beq_iff_eq.2 h1))
    simp only [spec_l07And.f, spec_l07Turn.f, Option.bind_some]
    rw [if_neg (by omega), if_neg h0]
  rw [if_neg h1]
  refine ev_step (f := fun k => spec_l07And.j0 k a b false ins L) (fun k => ?_) ?_
  · simp only [spec_l07And.f, spec_l07Turn.f, Option.bind_some]
    rw [if_neg (by omega), if_neg h0, beq_eq_false_iff_ne.2 h1]
  by_cases h2 : a = 1
  · rw [if_pos h2]
    refine ev_step (f := fun _ => some (ins, L, b)) (fun k => ?_) (ev_some _)
    simp only [spec_l07And.j0]
    rw [if_neg (by decide), if_pos h2]
  rw [if_neg h2]
  by_cases h3 : a = b
  · rw [if_pos h3]
    refine ev_step (f := fun _ => some (ins, L, b)) (fun k => ?_) (ev_some _)
    simp only [spec_l07And.j0]
    rw [if_neg (by decide), if_neg h2, if_pos h3]
  rw [if_neg h3]
  refine ev_step (fun k => ?_) (spec_find_ev hin hL hD a b)
  simp only [spec_l07And.j0]
  rw [if_neg (by decide), if_neg h2, if_neg h3]
theorem spec_and_ev {ins : Int} {L : List S79} (hin : 0 ≤ ins ∧ ins ≤ 1000) (hL : L.length ≤ 3000) (hD : Dist L) {x y : Int} (hx : 0 ≤ x ∧ x ≤ 1048575) (hy : 0 ≤ y ∧ y ≤ 1048575) :
    Ev (fun k => spec_l07And.f k ins L x y) (ins, (andR ins L x y).1, (andR ins L x y).2) := by
  have tx := turn_turn hx
  have ty := turn_turn hy
  by_cases hxy : x ≤ y
  · have e := spec_and_le hin hL hD hx hy hxy
    have : (ins, (andR ins L x y).1, (andR ins L x y).2) = (if x = 0 then (ins, L, 0) else if x = Go.bits .xor .i64 y 1 then (ins, L, 0) else if x = 1 then (ins, L, y) else if x = y then (ins, L, y) else
      if mhas (atMap ins L) ⟨x, y⟩ = true then (ins, L, mget (atMap ins L) ⟨x, y⟩) else if 3000 ≤ L.length then (ins, L, -1) else (ins, L ++ [⟨x, y⟩], 2 * (ins + 1 + L.length))) := by
      unfold andR
      rw [show min x y = x by omega, show max x y = y by omega]
      by_cases h0 : x = 0
      · simp only [if_pos h0]
      simp only [if_neg h0]
      rw [if_neg (show ¬ y = 0 by omega)]
      by_cases h1 : x = Go.bits .xor .i64 y 1
      · simp only [if_pos h1]
      simp only [if_neg h1]
      by_cases h2 : x = 1
      · simp only [if_pos h2]
      simp only [if_neg h2]
      rw [if_neg (show ¬ y = 1 by omega)]
      by_cases h3 : x = y
      · simp only [if_pos h3]; rw [h3]
      simp only [if_neg h3]
      split
      · rfl
      · split <;> rfl
    rw [this]
    exact e
  · have e := spec_and_le hin hL hD hy hx (by omega)
    have : (ins, (andR ins L x y).1, (andR ins L x y).2) = (if y = 0 then (ins, L, 0) else if y = Go.bits .xor .i64 x 1 then (ins, L, 0) else if y = 1 then (ins, L, x) else if y = x then (ins, L, x) else
      if mhas (atMap ins L) ⟨y, x⟩ = true then (ins, L, mget (atMap ins L) ⟨y, x⟩) else if 3000 ≤ L.length then (ins, L, -1) else (ins, L ++ [⟨y, x⟩], 2 * (ins + 1 + L.length))) := by
      unfold andR
      rw [show min x y = y by omega, show max x y = x by omega]
      rw [if_neg (show ¬ x = 0 by omega)]
      by_cases h0 : y = 0
      · simp only [if_pos h0]
      simp only [if_neg h0]
      by_cases h1 : y = Go.bits .xor .i64 x 1
      · rw [if_pos (show x = Go.bits .xor .i64 y 1 by rw [h1, tx]), if_pos h1]
      rw [if_neg (fun h => h1 (show y = Go.bits .xor .i64 x 1 by rw [h, ty])), if_neg h1]
      rw [if_neg (show ¬ x = 1 by omega), if_neg (show ¬ x = y by omega), if_neg (show ¬ y = x by omega)]
      by_cases h2 : y = 1
      · rw [if_pos h2, if_pos h2]
      rw [if_neg h2, if_neg h2]
      split
      · rfl
      · split <;> rfl
    rw [this]
    refine ev_step (f := fun k => spec_l07And.f k ins L y x) (fun k => ?_) e
    simp only [spec_l07And.f]
    rw [if_pos (by omega)]
    cases spec_l07And.f k ins L y x <;> rfl
end Go.Proofs.Yteagogcpbcickaa.Pure
set_option linter.unusedSimpArgs false
set_option linter.unusedVariables false
namespace Go.Proofs.Yteagogcpbcickaa.Pure
open Go.RowKit Go.Proofs.Yteagogcpbcickaa.G Go.Proofs.Yteagogcpbcickaa.Mp Go.Proofs.YteagogcpbcickaaW.PrintWords Go.Proofs.YteagogcpbcickaaW.PrintLast Go.Proofs.YteagogcpbcickaaW.PrintMore
theorem copy_eq (ins : Int) (L : List S79) (hL : L.length ≤ 1099511627776) : spec_l07Copy.f ins L = some (ins, L) := by
  unfold spec_l07Copy.f
  rw [Option.bind_some, if_pos (by simp; omega), List.nil_append]
theorem wire_eq {ins : Int} {L : List S79} (hin : 0 ≤ ins ∧ ins ≤ 1000) (hL : L.length ≤ 3000) (x : Int) : spec_l07Wire.f ins L x = some (isW ins L x) := by
  unfold spec_l07Wire.f spec_l01In.f isW
  rw [w64 (n := ins + (L.length : Int)) (by omega) (by omega), w64 (n := 2 * (ins + (L.length : Int))) (by omega) (by omega), w64 (by omega) (by omega)]
  by_cases h : x ≥ 0
  · rw [if_pos h, Option.bind_some]
    congr 1
    exact decide_eq_decide.2 (by omega)
  · rw [if_neg h, Option.bind_some]
    congr 1
    exact (decide_eq_false (by omega)).symm
theorem all_rd (ins : Int) (L : List S79) (ws : List Int) : (∀ i : Nat, i < ws.length → isW ins L (rd ws (i : Int)) = true) ↔ ∀ x ∈ ws, isW ins L x = true := by
  constructor
  · intro h x hx
    obtain ⟨i, hi, rfl⟩ := List.mem_iff_getElem.1 hx
    have := h i hi
    rwa [rd_nat, getD_lt ws i _ hi] at this
  · intro h i hi
    rw [rd_nat, getD_lt ws i _ hi]
    exact h _ (List.getElem_mem hi)
theorem grownR_no {ins : Int} {L : List S79} {ws : List Int} (F : List S79 × Int) (h : ¬ (GOk ins L ∧ ∀ x ∈ ws, isW ins L x = true)) : grownR ins L ws F = (L, -1) := by
  unfold grownR
  rw [if_neg (fun hh => h ⟨hh.1, (all_rd ins L ws).1 hh.2⟩)]
theorem grownR_ok {ins : Int} {L : List S79} {ws : List Int} (F : List S79 × Int) (h : GOk ins L) (h2 : ∀ x ∈ ws, isW ins L x = true) : grownR ins L ws F = if F.2 < 0 then (L, -1) else F := by
  unfold grownR
  rw [if_pos ⟨h, (all_rd ins L ws).2 h2⟩]
theorem spec_or_ev {ins : Int} {L : List S79} (hin : 0 ≤ ins ∧ ins ≤ 1000) (hL : L.length ≤ 3000) (hD : Dist L) {x y : Int} (hx : 0 ≤ x ∧ x ≤ 1048575) (hy : 0 ≤ y ∧ y ≤ 1048575) :
    Ev (fun k => spec_l07Or.f k ins L x y) (ins, (orR ins L x y).1, (orR ins L x y).2) := by
  unfold spec_l07Or.f spec_l07Turn.f
  simp only [Option.bind_some]
  refine ev_bind (spec_and_ev hin hL hD (turn_bd hx) (turn_bd hy)) ?_
  unfold orR
  by_cases h : (andR ins L (Go.bits .xor .i64 x 1) (Go.bits .xor .i64 y 1)).2 < 0
  · simp only [if_pos h]; exact ev_some _
  · simp only [if_neg h, Option.bind_some]; exact ev_some _
theorem spec_if_ev {ins : Int} {L : List S79} (hin : 0 ≤ ins ∧ ins ≤ 1000) (hL : L.length ≤ 3000) (hD : Dist L) {x p q : Int} (hx : 0 ≤ x ∧ x ≤ 1048575) (hp : 0 ≤ p ∧ p ≤ 1048575) (hq : 0 ≤ q ∧ q ≤ 1048575) :
    Ev (fun k => spec_l07If.f k ins L x p q) (ins, (pickR ins L x p q).1, (pickR ins L x p q).2) := by
  have b1 := andR_bd hin hL hx hp
  have d1 := andR_dist (ins := ins) hD x p
  have b2 := andR_bd hin b1.2 (turn_bd hx) hq
  have d2 := andR_dist (ins := ins) d1 (Go.bits .xor .i64 x 1) q
  unfold spec_l07If.f spec_l07Turn.f
  refine ev_bind (spec_and_ev hin hL hD hx hp) ?_
  unfold pickR
  by_cases h : (andR ins L x p).2 < 0
  · simp only [if_pos h]; exact ev_some _
  simp only [if_neg h, Option.bind_some]
  refine ev_bind (spec_and_ev hin b1.2 d1 (turn_bd hx) hq) ?_
  by_cases h2 : (andR ins (andR ins L x p).1 (Go.bits .xor .i64 x 1) q).2 < 0
  · simp only [if_pos h2]; exact ev_some _
  simp only [if_neg h2]
  refine ev_bind (spec_or_ev hin b2.2 d2 ⟨by omega, b1.1.2⟩ ⟨by omega, b2.1.2⟩) ?_
  exact ev_some _
theorem spec_GraphIf_ev {ins : Int} {L : List S79} (hL : WfA L) (hins : (Lit.int .i64 ins).wf = true) (hl : L.length ≤ 1099511627776) (a1 a2 a3 : Int) :
    Ev (fun k => spec_GraphIf.f k ins L a1 a2 a3) (ins, (grownR ins L [a1, a2, a3] (pickR ins L a1 a2 a3)).1, (grownR ins L [a1, a2, a3] (pickR ins L a1 a2 a3)).2) := by
  have hj : ∀ t : Bool, t = true → ¬ (GOk ins L ∧ ∀ x ∈ [a1, a2, a3], isW ins L x = true) → Ev (fun k => spec_GraphIf.j0 k a1 a2 a3 t ins L) (ins, (grownR ins L [a1, a2, a3] (pickR ins L a1 a2 a3)).1, (grownR ins L [a1, a2, a3] (pickR ins L a1 a2 a3)).2) := by
    rintro _ rfl h
    rw [grownR_no _ h]
    refine ev_step (f := fun _ => some (ins, L, -1)) (fun k => ?_) (ev_some _)
    simp only [spec_GraphIf.j0, copy_eq ins L hl, Option.bind_some, if_true]
  unfold spec_GraphIf.f
  refine ev_bind (spec_GraphOk_ev ins L hL hins) ?_
  by_cases hg : GOk ins L
  · rw [decide_eq_true hg]
    simp only [if_true, wire_eq hg.ins hg.len, Option.bind_some]
    cases h0 : isW ins L a1 with
    | false =>
      simp only [Bool.false_eq_true, if_false]
      exact hj true rfl (fun h => by have := h.2 a1 (by simp); rw [h0] at this; cases this)
    | true =>
    simp only [if_true]
    cases h1 : isW ins L a2 with
    | false =>
      simp only [Bool.false_eq_true, if_false]
      exact hj true rfl (fun h => by have := h.2 a2 (by simp); rw [h1] at this; cases this)
    | true =>
    simp only [if_true]
    cases h2 : isW ins L a3 with
    | false => exact hj true rfl (fun h => by have := h.2 a3 (by simp); rw [h2] at this; cases this)
    | true =>
      rw [grownR_ok _ hg (fun x hx => by simp at hx; rcases hx with rfl | rfl | rfl <;> assumption)]
      refine ev_step (f := fun k => (spec_l07If.f k ins L a1 a2 a3).bind fun bt => if bt.2.2 < 0 then some (ins, L, -1) else some (bt.1, bt.2.1, bt.2.2)) (fun k => ?_) ?_
      · simp only [spec_GraphIf.j0, copy_eq ins L hl, Option.bind_some, Bool.not_true, Bool.false_eq_true, if_false]
      refine ev_bind (spec_if_ev hg.ins hg.len (GOk.dist hg) (isW_bd h0 hg.ins hg.len) (isW_bd h1 hg.ins hg.len) (isW_bd h2 hg.ins hg.len)) ?_
      by_cases hn : (pickR ins L a1 a2 a3).2 < 0
      · simp only [if_pos hn]; exact ev_some _
      · simp only [if_neg hn]; exact ev_some _
  · rw [decide_eq_false hg]
    simp only [Bool.false_eq_true, if_false]
    exact hj true rfl (fun h => hg h.1)
end Go.Proofs.Yteagogcpbcickaa.Pure
set_option linter.unusedSimpArgs false
set_option linter.unusedVariables false
namespace Go.Proofs.Yteagogcpbcickaa.Pure
open Go.RowKit Go.Proofs.Yteagogcpbcickaa.G Go.Proofs.YteagogcpbcickaaW.PrintWords Go.Proofs.YteagogcpbcickaaW.PrintLast Go.Proofs.YteagogcpbcickaaW.PrintMore
theorem rounds_all {R : Type} (L : Nat → Nat → Option R) (n : Nat) (p : Nat → Bool) (r bad : R) (step : ∀ k i, i < n → p i = true → L (k + 1) i = L k (i + 1)) (exit : ∀ k i, i < n → p i = false → L (k + 1) i = some bad)
    (stop : ∀ k, L (k + 1) n = some r) : ∀ k, n < k → L k 0 = some (if (List.range n).all p then r else bad) :=
  rounds_pre L n p r bad (fun k i hi _ hp => step k i hi hp) (fun k i hi _ hp => exit k i hi hp) (fun k _ => stop k)
def sgn (b : Bool) : Int := if b then 49 else 48
def ones (l : List Bool) : ByteArray := ⟨(l.map fun b => if b then (49 : UInt8) else 48).toArray⟩
theorem ones_size (l : List Bool) : (ones l).size = l.length := by
  show (l.map fun b => if b then (49 : UInt8) else 48).toArray.size = _
  simp
theorem bt_ones (l : List Bool) (i : Nat) (h : i < l.length) : bt (ones l) (i : Int) = sgn (l.getD i false) := by
  have hs : i < (ones l).size := by rw [ones_size]; exact h
  rw [bt_nat _ i hs, getD_lt l i false h]
  have e : (ones l)[i] = if l[i] then (49 : UInt8) else 48 := by
    have h1 : (ones l).data.toList[i]? = some (ones l)[i] := by
      rw [List.getElem?_eq_getElem (by simpa using hs)]
      rfl
    have h2 : (ones l).data.toList[i]? = some (if l[i] then (49 : UInt8) else 48) := by simp [ones, h]
    exact Option.some.inj (h1.symm.trans h2)
  rw [e]
  unfold sgn
  cases l[i] <;> rfl
theorem ones_inj {a b : List Bool} (h : ones a = ones b) : a = b := by
  unfold ones at h
  injection h with h
  have h2 : (a.map fun b => if b then (49 : UInt8) else 48) = b.map fun b => if b then (49 : UInt8) else 48 := by simpa using congrArg Array.toList h
  exact List.map_inj_right (fun x y hxy => by revert hxy; cases x <;> cases y <;> decide) |>.1 h2
theorem data_inj {a b : ByteArray} (h : a.data.toList = b.data.toList) : a = b := by
  cases a; cases b
  simp only [ByteArray.mk.injEq]
  exact Array.toList_inj.1 h
theorem toList_inj {a b : ByteArray} : a.toList = b.toList ↔ a = b := by
  rw [toList_data, toList_data]
  exact ⟨data_inj, fun h => h ▸ rfl⟩
theorem strOfNums_ones (l : List Bool) : strOfNums (l.map sgn) = ones l := by
  unfold strOfNums ones
  congr 2
  rw [List.map_map]
  refine List.map_congr_left fun b _ => ?_
  cases b <;> rfl
def tok (N : Int) (s : ByteArray) : Bool := decide (0 ≤ N ∧ N ≤ 12 ∧ (s.size : Int) = 2 ^ N.toNat) && (List.range s.size).all fun (i : Nat) => bt s (i : Int) == 48 || bt s (i : Int) == 49
theorem tok_form {N : Int} {s : ByteArray} (h : tok N s = true) : ∃ (n : Nat) (l : List Bool), N = (n : Int) ∧ n ≤ 12 ∧ l.length = 2 ^ n ∧ s = ones l := by
  unfold tok at h
  simp only [Bool.and_eq_true, decide_eq_true_eq] at h
  obtain ⟨⟨h0, h1, h2⟩, h3⟩ := h
  obtain ⟨n, rfl⟩ := Int.eq_ofNat_of_zero_le h0
  have h2' : s.size = 2 ^ n := by
    rw [Int.toNat_natCast] at h2
    exact_mod_cast h2
  refine ⟨n, (List.range s.size).map fun (i : Nat) => decide (bt s (i : Int) = 49), rfl, by omega, by simp [h2'], ?_⟩
  apply data_inj
  apply List.ext_getElem?
  intro i
  rcases Nat.lt_or_ge i s.size with hi | hi
  · have hb := List.all_eq_true.1 h3 i (by simpa using hi)
    have e : s.data.toList[i]? = some s[i] := by
      rw [List.getElem?_eq_getElem (by simpa using hi)]
      rfl
    rw [e]
    have hv := bt_nat s i hi
    simp only [ones, List.map_map, List.getElem?_map, List.getElem?_range hi, Option.map_some, Function.comp]
    congr 1
    simp only [Bool.or_eq_true, beq_iff_eq] at hb
    have hd : ∀ c : UInt8, ((c.toNat : Int) = 48 → c = 48) ∧ ((c.toNat : Int) = 49 → c = 49) := fun c => ⟨fun h => UInt8.toNat_inj.1 (by have : c.toNat = 48 := by omega
                                                                                                                                         rw [this]; rfl), fun h => UInt8.toNat_inj.1 (by have : c.toNat = 49 := by omega
                                                                                                                                                                                         rw [this]; rfl)⟩
    rcases hb with hb | hb
    · have hc := (hd s[i]).1 (hv ▸ hb)
      simp [hb, hc]
    · have hc := (hd s[i]).2 (hv ▸ hb)
      simp [hb, hc]
  · rw [List.getElem?_eq_none (by simpa using hi), List.getElem?_eq_none (by simp [ones]; exact hi)]
theorem tok_ones {n : Nat} {l : List Bool} (hn : n ≤ 12) (hl : l.length = 2 ^ n) : tok (n : Int) (ones l) = true := by
  unfold tok
  rw [Bool.and_eq_true]
  refine ⟨decide_eq_true ⟨by omega, by omega, ?_⟩, List.all_eq_true.2 fun i hi => ?_⟩
  · rw [ones_size, hl, Int.toNat_natCast]
    norm_cast
  · have hi' : i < l.length := by rw [ones_size] at hi; simpa using hi
    rw [bt_ones l i hi']
    unfold sgn
    cases l.getD i false <;> rfl
theorem pow12 {n : Nat} (hn : n ≤ 12) : 2 ^ n ≤ 4096 := Nat.pow_le_pow_right (by decide) hn
theorem pow62 {n : Nat} (hn : n ≤ 61) : (2 : Int) ^ n ≤ 2305843009213693952 := by
  have h : 2 ^ n ≤ 2 ^ 61 := Nat.pow_le_pow_right (by decide) hn
  have h2 : ((2 ^ n : Nat) : Int) ≤ ((2 ^ 61 : Nat) : Int) := by exact_mod_cast h
  have h3 : ((2 ^ n : Nat) : Int) = (2 : Int) ^ n := by norm_cast
  omega
theorem pow_pos_ (n : Nat) : (1 : Int) ≤ 2 ^ n := by
  have h : 1 ≤ 2 ^ n := Nat.one_le_two_pow
  have h2 : ((1 : Nat) : Int) ≤ ((2 ^ n : Nat) : Int) := by exact_mod_cast h
  have h3 : ((2 ^ n : Nat) : Int) = (2 : Int) ^ n := by norm_cast
  omega
theorem pow2_eq (n : Nat) (hn : n ≤ 60) : ∀ k, n < k → spec_l01Pow2.f k (n : Int) = some ((2 : Int) ^ n) := by
  intro k hk
  unfold spec_l01Pow2.f
  refine rounds (fun k i => spec_l01Pow2.l0 k (n : Int) ((2 : Int) ^ i) (i : Int)) n _ ?_ ?_ k hk
  · intro k i hi
    simp only [spec_l01Pow2.l0]
    have h1 := pow62 (n := i + 1) (by omega)
    have h2 := pow_pos_ i
    rw [if_pos (by omega), w64s i (by omega), show (2 : Int) * 2 ^ i = 2 ^ (i + 1) from by rw [Int.pow_succ]; omega, w64 (by have := pow_pos_ (i + 1); omega) (by omega)]
  · intro k
    simp only [spec_l01Pow2.l0]
    rw [if_neg (by omega)]
theorem spec_TableOk_eq (N : Int) (s : ByteArray) (hs : s.size ≤ 1099511627776) : ∀ k, s.size + 20 < k → spec_TableOk.f k N s = some (tok N s) := by
  intro k hk
  obtain ⟨k, rfl⟩ : ∃ m, k = m + 1 := ⟨k - 1, by omega⟩
  unfold spec_TableOk.f spec_l01In.f
  by_cases h0 : N ≥ 0
  · rw [if_pos h0]
    by_cases h1 : N ≤ 12
    · obtain ⟨n, rfl⟩ := Int.eq_ofNat_of_zero_le h0
      simp only [h1, decide_true, Option.bind_some, if_true]
      rw [pow2_eq n (by omega) (k + 1) (by omega)]
      simp only [Option.bind_some, spec_TableOk.j0]
      by_cases h2 : (s.size : Int) = 2 ^ n
      · rw [if_neg (by simp [h2])]
        have h := rounds_all (fun k i => spec_TableOk.l0 k (i : Int) (n : Int) s) s.size (fun i => bt s i == 48 || bt s i == 49) true false ?_ ?_ ?_ k (by omega)
        · refine h.trans ?_
          unfold tok
          rw [decide_eq_true (⟨h0, h1, by rw [Int.toNat_natCast]; exact h2⟩ : 0 ≤ (n : Int) ∧ (n : Int) ≤ 12 ∧ (s.size : Int) = 2 ^ (n : Int).toNat), Bool.true_and]
          congr 1
          split <;> simp_all
        · intro k i hi hp
          simp only [spec_TableOk.l0]
          simp only [Bool.or_eq_true, beq_iff_eq] at hp
          rw [if_pos (by omega), if_pos (by omega), w64s i (by omega)]
          rcases hp with hp | hp
          · rw [if_pos hp]
          · rw [if_neg (by omega), if_pos hp]
        · intro k i hi hp
          simp only [spec_TableOk.l0]
          simp only [Bool.or_eq_false_iff, beq_eq_false_iff_ne] at hp
          rw [if_pos (by omega), if_pos (by omega), if_neg hp.1, if_neg hp.2]
        · intro k
          simp only [spec_TableOk.l0]
          rw [if_neg (by omega)]
      · rw [if_pos (by simpa using h2)]
        unfold tok
        rw [decide_eq_false (by rintro ⟨_, _, h⟩; rw [Int.toNat_natCast] at h; exact h2 h), Bool.false_and]
    · simp only [h1, decide_false, Option.bind_some]
      simp only [Bool.false_eq_true, if_false, spec_TableOk.j0, if_true]
      unfold tok
      rw [decide_eq_false (by omega), Bool.false_and]
  · rw [if_neg h0]
    simp only [Option.bind_some, Bool.false_eq_true, if_false, spec_TableOk.j0, if_true]
    unfold tok
    rw [decide_eq_false (by omega), Bool.false_and]
end Go.Proofs.Yteagogcpbcickaa.Pure
set_option linter.unusedSimpArgs false
set_option linter.unusedVariables false
namespace Go.Proofs.Yteagogcpbcickaa.Pure
open Go.RowKit Go.Proofs.Yteagogcpbcickaa.G Go.Proofs.YteagogcpbcickaaW.PrintWords Go.Proofs.YteagogcpbcickaaW.PrintLast Go.Proofs.YteagogcpbcickaaW.PrintMore
def flags (s : ByteArray) : List Bool := s.data.toList.map fun c => c == 49
theorem flags_ones (l : List Bool) : flags (ones l) = l := by
  unfold flags
  simp only [ones, List.map_map]
  exact (List.map_congr_left (fun b _ => by cases b <;> rfl)).trans (List.map_id l)
theorem range_getD (l : List Bool) (f : Bool → Bool) : (List.range l.length).map (fun i => f (l.getD i false)) = l.map f := by
  apply List.ext_getElem
  · simp
  · intro i h1 h2
    simp only [List.getElem_map, List.getElem_range]
    rw [getD_lt l i false (by simpa using h1)]
end Go.Proofs.Yteagogcpbcickaa.Pure
set_option linter.unusedSimpArgs false
set_option linter.unusedVariables false
namespace Go.Proofs.Yteagogcpbcickaa.Pure
open Go.RowKit Go.Proofs.Yteagogcpbcickaa.G Go.Proofs.YteagogcpbcickaaW.PrintWords Go.Proofs.YteagogcpbcickaaW.PrintLast Go.Proofs.YteagogcpbcickaaW.PrintMore
def knownT (N : Int) (s : ByteArray) : Int := if tok N s then (if (flags s).contains true then (if (flags s).contains false then -1 else 1) else 0) else -1
theorem all_cont (t : List Bool) (b : Bool) : (t.all fun x => x == b) = !t.contains (!b) := by
  induction t with
  | nil => rfl
  | cons x t ih =>
    rw [List.all_cons, ih, List.contains_cons]
    cases x <;> cases b <;> simp
theorem range_all_getD (t : List Bool) (b : Bool) : ((List.range t.length).all fun i => t.getD i false == b) = t.all fun x => x == b := by
  have h := congrArg (fun m : List Bool => m.all id) (range_getD t (fun x => x == b))
  simpa [List.all_map, Function.comp_def] using h
theorem spec_Known_eq (N : Int) (s : ByteArray) (hs : s.size ≤ 1099511627776) : ∀ k, s.size + 20 < k → spec_Known.f k N s = some (knownT N s) := by
  intro k hk
  unfold spec_Known.f knownT
  rw [spec_TableOk_eq N s hs k hk, Option.bind_some]
  cases ht : tok N s with
  | false => rfl
  | true =>
    obtain ⟨n, l, rfl, hn, hl, rfl⟩ := tok_form ht
    have hp := pow12 hn
    have hpos : 0 < 2 ^ n := Nat.two_pow_pos n
    rw [if_pos rfl, if_pos rfl, flags_ones]
    cases l with
    | nil => simp at hl; omega
    | cons b t =>
      simp only [List.length_cons] at hl
      have h := rounds_all (fun k i => spec_Known.l0 k ((i + 1 : Nat) : Int) (n : Int) (ones (b :: t))) t.length (fun i => t.getD i false == b) (if b then 1 else 0) (-1) ?_ ?_ ?_ k (by rw [ones_size] at hk; simp at hk; omega)
      · refine h.trans ?_
        rw [range_all_getD, all_cont]
        cases b <;> cases h1 : t.contains true <;> cases h2 : t.contains false <;> simp_all
      all_goals simp only [spec_Known.l0]
      · intro k i hi hpi
        rw [if_pos (by rw [ones_size, List.length_cons]; omega), if_pos (by omega), if_pos (by rw [ones_size, List.length_cons]; omega), bt_ones _ (i + 1) (by simp; omega), show (0 : Int) = ((0 : Nat) : Int) from rfl, bt_ones _ 0 (by simp), if_pos (by simpa using congrArg sgn (beq_iff_eq.1 hpi)), w64s (i + 1) (by omega)]
      · intro k i hi hpi
        rw [if_pos (by rw [ones_size, List.length_cons]; omega), if_pos (by omega), if_pos (by rw [ones_size, List.length_cons]; omega), bt_ones _ (i + 1) (by simp; omega), show (0 : Int) = ((0 : Nat) : Int) from rfl, bt_ones _ 0 (by simp), if_neg ?_]
        simp only [List.getD_cons_succ, List.getD_cons_zero]
        intro e
        have hx : ∀ x y : Bool, sgn x = sgn y → x = y := by decide
        rw [hx _ _ e] at hpi
        simp at hpi
      · intro k
        rw [if_neg (by rw [ones_size, List.length_cons]; omega), if_pos (by rw [ones_size, List.length_cons]; omega), show (0 : Int) = ((0 : Nat) : Int) from rfl, bt_ones _ 0 (by simp), List.getD_cons_zero]
        cases b <;> decide +kernel
end Go.Proofs.Yteagogcpbcickaa.Pure
set_option linter.unusedSimpArgs false
set_option linter.unusedVariables false
namespace Go.Proofs.Yteagogcpbcickaa.Pure
open Go.RowKit Go.Proofs.Yteagogcpbcickaa.G Go.Proofs.YteagogcpbcickaaW.PrintWords Go.Proofs.YteagogcpbcickaaW.PrintLast Go.Proofs.YteagogcpbcickaaW.PrintMore
theorem ones_extract (l : List Bool) (a b : Nat) : (ones l).extract a b = ones ((l.take b).drop a) := by
  apply data_inj
  rw [ByteArray.data_extract]
  simp only [ones, Array.toList_extract, List.extract_eq_take_drop, List.map_drop, List.map_take]
  rw [List.drop_take]
def halfL (l : List Bool) (h : Bool) : List Bool := if h then l.drop (l.length / 2) else l.take (l.length / 2)
theorem halfL_len {n : Nat} {l : List Bool} (hl : l.length = 2 ^ (n + 1)) (h : Bool) : (halfL l h).length = 2 ^ n := by
  rw [Nat.pow_succ] at hl
  cases h <;> simp [halfL] <;> omega
def halfT (N : Int) (s : ByteArray) (h : Int) : Int × ByteArray × Bool := if tok N s && (N != 0) && (h == 0 || h == 1) then (N - 1, ones (halfL (flags s) (h == 1)), true) else (0, ⟨#[]⟩, false)
theorem spec_Half_eq (N : Int) (s : ByteArray) (h : Int) (hs : s.size ≤ 1099511627776) : ∀ k, s.size + 20 < k → spec_Half.f k N s h = some (halfT N s h) := by
  intro k hk
  unfold spec_Half.f halfT
  rw [spec_TableOk_eq N s hs k hk, Option.bind_some]
  cases ht : tok N s with
  | false => rfl
  | true =>
    obtain ⟨n, l, rfl, hn, hl, rfl⟩ := tok_form ht
    have hp := pow12 hn
    rw [if_pos rfl]
    by_cases h0 : (n : Int) = 0
    · rw [if_pos h0, h0]
      rfl
    · have e0 : ((n : Int) != 0) = true := bne_iff_ne.2 h0
      rw [if_neg h0, e0]
      unfold spec_l01In.f
      by_cases h1 : h = 0 ∨ h = 1
      · obtain ⟨m, rfl⟩ : ∃ m, n = m + 1 := ⟨n - 1, by omega⟩
        have hl2 : l.length = 2 * 2 ^ m := by rw [hl, Nat.pow_succ, Nat.mul_comm]
        have hhalf : l.length / 2 = 2 ^ m := by omega
        rw [if_pos (by omega), Option.bind_some, if_pos (by simp; omega), ones_size, show ((l.length : Nat) : Int) / 2 = ((l.length / 2 : Nat) : Int) by omega, w64 (n := ((l.length / 2 : Nat) : Int)) (by omega) (by omega), w64 (n := ((m + 1 : Nat) : Int) - 1) (by omega) (by omega)]
        rcases h1 with h1 | h1
        · subst h1
          rw [Int.zero_mul, w64 (n := 0) (by omega) (by omega), Int.zero_add, w64 (n := ((l.length / 2 : Nat) : Int)) (by omega) (by omega), if_pos (by omega), if_pos (by omega), if_pos (by omega), Int.toNat_natCast, show (0 : Int).toNat = 0 from rfl, ones_extract, flags_ones]
          rfl
        · subst h1
          rw [Int.one_mul, w64 (n := ((l.length / 2 : Nat) : Int)) (by omega) (by omega), w64 (n := ((l.length / 2 : Nat) : Int) + ((l.length / 2 : Nat) : Int)) (by omega) (by omega), if_pos (by omega), if_pos (by omega), if_pos (by omega), Int.toNat_natCast, show (((l.length / 2 : Nat) : Int) + ((l.length / 2 : Nat) : Int)).toNat = l.length by omega, ones_extract, flags_ones, List.take_length]
          rfl
      · have e : (h == 0 || h == 1) = false := by simp; omega
        rw [e]
        by_cases h2 : h ≥ 0
        · rw [if_pos h2, Option.bind_some, if_neg (by simp; omega)]
          rfl
        · rw [if_neg h2, Option.bind_some, if_neg (by decide)]
          rfl
def b01 (b : Bool) : Int := if b then 1 else 0
end Go.Proofs.Yteagogcpbcickaa.Pure
set_option linter.unusedSimpArgs false
set_option linter.unusedVariables false
namespace Go.Proofs.Yteagogcpbcickaa.Pure
open Go.RowKit Go.Proofs.Yteagogcpbcickaa.G Go.Proofs.Yteagogcpbcickaa.Mp Go.Proofs.YteagogcpbcickaaW.PrintWords Go.Proofs.YteagogcpbcickaaW.PrintLast Go.Proofs.YteagogcpbcickaaW.PrintMore
theorem pickR_dist {ins : Int} {L : List S79} (hD : Dist L) (x p q : Int) : Dist (pickR ins L x p q).1 := by
  unfold pickR
  split
  · exact andR_dist hD _ _
  split
  · exact andR_dist (andR_dist hD _ _) _ _
  exact orR_dist (andR_dist (andR_dist hD _ _) _ _) _ _
def knownL (l : List Bool) : Int := if l.contains true then (if l.contains false then -1 else 1) else 0
theorem knownL_bd (l : List Bool) : -1 ≤ knownL l ∧ knownL l ≤ 1 := by
  unfold knownL
  split
  · split <;> decide
  · decide
theorem known_one {l : List Bool} (h : l.length = 1) : 0 ≤ knownL l := by
  obtain ⟨a, rfl⟩ := List.length_eq_one_iff.1 h
  cases a <;> decide
def wireR (ins : Int) : Nat → List Bool → List S79 → Int → List S79 × Int
  | 0, l, L, _ => (L, knownL l)
  | n + 1, l, L, i => if 0 ≤ knownL l then (L, knownL l) else
    if (wireR ins n (halfL l false) L (i + 1)).2 < 0 then wireR ins n (halfL l false) L (i + 1) else
    if halfL l false = halfL l true then wireR ins n (halfL l false) L (i + 1) else
    if (wireR ins n (halfL l true) (wireR ins n (halfL l false) L (i + 1)).1 (i + 1)).2 < 0 then ((wireR ins n (halfL l true) (wireR ins n (halfL l false) L (i + 1)).1 (i + 1)).1, -1) else
    pickR ins (wireR ins n (halfL l true) (wireR ins n (halfL l false) L (i + 1)).1 (i + 1)).1 (2 * (i + 1)) (wireR ins n (halfL l true) (wireR ins n (halfL l false) L (i + 1)).1 (i + 1)).2 (wireR ins n (halfL l false) L (i + 1)).2
theorem wireR_bd {ins : Int} (hin : 0 ≤ ins ∧ ins ≤ 1000) : ∀ (n : Nat) (l : List Bool) (L : List S79) (i : Int), 0 ≤ i → i + n ≤ 1000 → L.length ≤ 3000 → Dist L →
    (-1 ≤ (wireR ins n l L i).2 ∧ (wireR ins n l L i).2 ≤ 1048575) ∧ (wireR ins n l L i).1.length ≤ 3000 ∧ Dist (wireR ins n l L i).1 := by
  intro n
  induction n with
  | zero =>
    intro l L i h0 h1 hL hD
    have hb := knownL_bd l
    simp only [wireR]
    exact ⟨by omega, hL, hD⟩
  | succ m ih =>
    intro l L i h0 h1 hL hD
    have hb := knownL_bd l
    have a := ih (halfL l false) L (i + 1) (by omega) (by omega) hL hD
    have b := ih (halfL l true) _ (i + 1) (by omega) (by omega) a.2.1 a.2.2
    simp only [wireR]
    generalize wireR ins m (halfL l false) L (i + 1) = ra at a b
    generalize wireR ins m (halfL l true) ra.1 (i + 1) = rb at b
    split
    · exact ⟨by dsimp only; omega, hL, hD⟩
    split
    · exact a
    split
    · exact a
    split
    · exact ⟨by dsimp only; omega, b.2⟩
    have p := pickR_bd (x := 2 * (i + 1)) (p := rb.2) (q := ra.2) hin b.2.1 (by omega) (by omega) (by omega)
    exact ⟨p.1, p.2, pickR_dist b.2.2 _ _ _⟩
theorem knownT_ones {n : Nat} {l : List Bool} (hn : n ≤ 12) (hl : l.length = 2 ^ n) : knownT (n : Int) (ones l) = knownL l := by
  unfold knownT
  rw [tok_ones hn hl, flags_ones, if_pos rfl]
  rfl
theorem l07Table_step (k : Nat) (ins : Int) (L : List S79) (N : Int) (s : ByteArray) (i : Int) : spec_l07Table.f (k + 1) ins L N s i =
    ((spec_Known.f k N s).bind fun t104 =>
      if t104 ≥ 0 then some (ins, L, t104)
      else
        (spec_Half.f k N s 0).bind fun bt105 =>
          (spec_Half.f k N s 1).bind fun bt109 =>
            if (bt105.1 == bt109.1 && bt105.2.1.toList == bt109.2.1.toList) = true then
              (spec_l07Table.f k ins L bt105.1 bt105.2.1 (wrap64 (i + 1))).bind fun bt113 =>
                some (bt113.1, bt113.2.1, bt113.2.2)
            else
              (spec_l07Table.f k ins L bt105.1 bt105.2.1 (wrap64 (i + 1))).bind fun bt118 =>
                if bt118.2.2 < 0 then some (bt118.1, bt118.2.1, -1)
                else
                  (spec_l07Table.f k bt118.1 bt118.2.1 bt109.1 bt109.2.1 (wrap64 (i + 1))).bind fun bt124 =>
                    if bt124.2.2 < 0 then some (bt124.1, bt124.2.1, -1)
                    else
                      (spec_l07If.f k bt124.1 bt124.2.1 (wrap64 (2 * wrap64 (i + 1))) bt124.2.2 bt118.2.2).bind
                        fun bt130 => some (bt130.1, bt130.2.1, bt130.2.2)) := by simp only [spec_l07Table.f]
theorem spec_table_ev {ins : Int} (hin : 0 ≤ ins ∧ ins ≤ 1000) : ∀ (n : Nat) (l : List Bool) (L : List S79) (i : Int), n ≤ 12 → l.length = 2 ^ n → 0 ≤ i → i + n ≤ 1000 → L.length ≤ 3000 → Dist L →
    Ev (fun k => spec_l07Table.f k ins L (n : Int) (ones l) i) (ins, (wireR ins n l L i).1, (wireR ins n l L i).2) := by
  intro n
  induction n with
  | zero =>
    intro l L i hn hl hi hin2 hL hD
    have hk := known_one (l := l) (by simpa using hl)
    have hs : (ones l).size ≤ 1099511627776 := by rw [ones_size, hl]; decide
    have hkn := ev_ge _ (spec_Known_eq ((0 : Nat) : Int) (ones l) hs)
    rw [knownT_ones (n := 0) (by omega) hl] at hkn
    refine ev_step (fun k => l07Table_step k _ _ _ _ _) ?_
    refine ev_bind hkn ?_
    simp only [if_pos (show knownL l ≥ 0 from hk), wireR]
    exact ev_some _
  | succ m ih =>
    intro l L i hn hl hi hin2 hL hD
    have a := wireR_bd hin m (halfL l false) L (i + 1) (by omega) (by omega) hL hD
    have ea := ih (halfL l false) L (i + 1) (by omega) (halfL_len hl _) (by omega) (by omega) hL hD
    have b := wireR_bd hin m (halfL l true) _ (i + 1) (by omega) (by omega) a.2.1 a.2.2
    have eb := ih (halfL l true) _ (i + 1) (by omega) (halfL_len hl _) (by omega) (by omega) a.2.1 a.2.2
    have hp := pow12 (n := m + 1) (by omega)
    have hs : (ones l).size ≤ 1099511627776 := by rw [ones_size, hl]; omega
    have hw1 : wrap64 (i + 1) = i + 1 := w64 (by omega) (by omega)
    have hw2 : wrap64 (2 * (i + 1)) = 2 * (i + 1) := w64 (by omega) (by omega)
    have hkn := ev_ge _ (spec_Known_eq ((m + 1 : Nat) : Int) (ones l) hs)
    rw [knownT_ones (n := m + 1) (by omega) hl] at hkn
    have hh : ∀ h : Int, (h = 0 ∨ h = 1) → halfT ((m + 1 : Nat) : Int) (ones l) h = ((m : Int), ones (halfL l (h == 1)), true) := by
      intro h hh
      unfold halfT
      rw [tok_ones (by omega) hl, show (((m + 1 : Nat) : Int) != 0) = true from by rw [bne_iff_ne]; omega, show (h == 0 || h == 1) = true from by simpa using hh, if_pos (by decide), flags_ones, show ((m + 1 : Nat) : Int) - 1 = (m : Int) by omega]
    have h0 := ev_ge _ (spec_Half_eq ((m + 1 : Nat) : Int) (ones l) 0 hs)
    have h1 := ev_ge _ (spec_Half_eq ((m + 1 : Nat) : Int) (ones l) 1 hs)
    rw [hh 0 (.inl rfl)] at h0
    rw [hh 1 (.inr rfl)] at h1
    have e0 : ((0 : Int) == 1) = false := rfl
    have e1 : ((1 : Int) == 1) = true := rfl
    rw [e0] at h0
    rw [e1] at h1
    simp only [wireR]
    generalize wireR ins m (halfL l false) L (i + 1) = ra at a b ea eb
    generalize wireR ins m (halfL l true) ra.1 (i + 1) = rb at b eb
    obtain ⟨ra1, ra2⟩ := ra
    obtain ⟨rb1, rb2⟩ := rb
    dsimp only at *
    refine ev_step (fun k => l07Table_step k _ _ _ _ _) ?_
    refine ev_bind hkn ?_
    by_cases c1 : 0 ≤ knownL l
    · simp only [if_pos (show knownL l ≥ 0 from c1), if_pos c1]
      exact ev_some _
    simp only [if_neg (show ¬ knownL l ≥ 0 from c1), if_neg c1]
    refine ev_bind h0 ?_
    refine ev_bind h1 ?_
    dsimp only
    rw [hw1, hw2]
    by_cases c3 : halfL l false = halfL l true
    · simp only [c3, beq_self_eq_true, Bool.and_self, if_true]
      rw [c3] at ea
      by_cases c2 : ra2 < 0
      · simp only [if_pos c2]
        refine ev_bind ea (ev_some _)
      · simp only [if_neg c2]
        refine ev_bind ea (ev_some _)
    · have hne : (((m : Int) == (m : Int)) && ((ones (halfL l false)).toList == (ones (halfL l true)).toList)) = false := by
        rw [Bool.and_eq_false_iff]
        exact .inr (beq_eq_false_iff_ne.2 fun h => c3 (ones_inj (toList_inj.1 h)))
      simp only [hne, Bool.false_eq_true, if_false, if_neg c3]
      refine ev_bind ea ?_
      by_cases c2 : ra2 < 0
      · simp only [if_pos c2, show ra2 = -1 by omega]
        exact ev_some _
      simp only [if_neg c2]
      refine ev_bind eb ?_
      by_cases c4 : rb2 < 0
      · simp only [if_pos c4]
        exact ev_some _
      simp only [if_neg c4]
      refine ev_bind (spec_if_ev hin b.2.1 b.2.2 ⟨by omega, by omega⟩ ⟨by omega, b.1.2⟩ ⟨by omega, a.1.2⟩) ?_
      exact ev_some _
theorem dist_nil : Dist ([] : List S79) := fun i j _ hj => absurd hj (Nat.not_lt_zero j)
def graphOfR (N : Int) (s : ByteArray) : Int × List S79 × Int := if tok N s = true then (if (wireR N N.toNat (flags s) [] 0).2 < 0 then (0, [], -1) else (N, (wireR N N.toNat (flags s) [] 0).1, (wireR N N.toNat (flags s) [] 0).2)) else (0, [], -1)
theorem graphOf_spec_ev (N : Int) (s : ByteArray) (hs : s.size ≤ 1099511627776) : Ev (fun k => spec_GraphOf.f k N s) (graphOfR N s) := by
  have hS := ev_ge _ (spec_TableOk_eq N s hs)
  unfold graphOfR
  unfold spec_GraphOf.f
  cases ht : tok N s with
  | false =>
    rw [ht] at hS
    exact ev_bind hS (ev_some _)
  | true =>
    rw [ht] at hS
    obtain ⟨n, l, rfl, hn, hl, rfl⟩ := tok_form ht
    rw [if_pos rfl, flags_ones, Int.toNat_natCast]
    have hin : 0 ≤ (n : Int) ∧ (n : Int) ≤ 1000 := by omega
    have eS := spec_table_ev hin n l [] 0 hn hl (by omega) (by omega) (by simp) dist_nil
    generalize wireR (n : Int) n l [] 0 = r at eS
    obtain ⟨R, v⟩ := r
    dsimp only at *
    refine ev_bind hS ?_
    simp only [if_true]
    refine ev_bind eS ?_
    by_cases c : v < 0
    · simp only [if_pos c]; exact ev_some _
    · simp only [if_neg c]; exact ev_some _
end Go.Proofs.Yteagogcpbcickaa.Pure
set_option linter.unusedSimpArgs false
set_option linter.unusedVariables false
namespace Go.Proofs.Yteagogcpbcickaa.Pure
open Go.RowKit Go.Proofs.Yteagogcpbcickaa.G Go.Proofs.YteagogcpbcickaaW.PrintWords Go.Proofs.YteagogcpbcickaaW.PrintLast Go.Proofs.YteagogcpbcickaaW.PrintMore
def plc (l : List Int) : Int := l.foldl (fun a b => 2 * a + b) 0
def isBit (b : Int) : Bool := b == 0 || b == 1
theorem plc_snoc (l : List Int) (b : Int) : plc (l ++ [b]) = 2 * plc l + b := by simp [plc, List.foldl_append]
theorem plc_bd (l : List Int) (i : Nat) (hi : i ≤ l.length) (h : ∀ j, j < i → isBit (l.getD j 0) = true) : 0 ≤ plc (l.take i) ∧ plc (l.take i) < 2 ^ i := by
  induction i with
  | zero => simp [plc]
  | succ i ih =>
    obtain ⟨h0, h1⟩ := ih (by omega) (fun j hj => h j (by omega))
    have hb := h i (by omega)
    simp only [isBit, Bool.or_eq_true, beq_iff_eq] at hb
    rw [take_succ_getD l i 0 (by omega), plc_snoc, Int.pow_succ]
    omega
theorem all_getD (l : List Int) (p : Int → Bool) : (List.range l.length).all (fun i => p (l.getD i 0)) = l.all p := by
  rw [Bool.eq_iff_iff, List.all_eq_true, List.all_eq_true]
  constructor
  · intro h x hx
    obtain ⟨i, hi, rfl⟩ := List.getElem_of_mem hx
    have := h i (by simpa using hi)
    rwa [getD_lt l i 0 hi] at this
  · intro h i hi
    have hi' : i < l.length := by simpa using hi
    rw [getD_lt l i 0 hi']
    exact h _ (List.getElem_mem hi')
theorem placeOfBits_eq (l : List Int) (hl : l.length ≤ 60) : ∀ k, l.length < k → impl_placeOfBits.f k l = some (if l.all isBit then (plc l, true) else (0, false)) := by
  intro k hk
  unfold impl_placeOfBits.f
  rw [← all_getD l isBit]
  have h := rounds_pre (fun k i => impl_placeOfBits.l0 k (plc (l.take i)) l (l.length : Int) (i : Int)) l.length (fun i => isBit (l.getD i 0)) (plc l, true) (0, false) ?_ ?_ ?_ k hk
  · simpa [plc] using h
  · intro k i hi hp hb
    simp only [isBit, Bool.or_eq_true, beq_iff_eq] at hb
    obtain ⟨h0, h1⟩ := plc_bd l i (by omega) hp
    have hw := pow62 (n := i) (by omega)
    simp only [impl_placeOfBits.l0]
    rw [if_pos (by omega), if_pos (by omega), if_pos (by omega), rd_nat, w64s i (by omega), take_succ_getD l i 0 hi, plc_snoc, w64 (n := 2 * plc (l.take i)) (by omega) (by omega), w64 (by omega) (by omega)]
    rcases hb with hb | hb
    · rw [if_pos hb]
    · rw [if_neg (by omega), if_pos hb]
  · intro k i hi hp hb
    simp only [isBit, Bool.or_eq_false_iff, beq_eq_false_iff_ne] at hb
    simp only [impl_placeOfBits.l0]
    rw [if_pos (by omega), if_pos (by omega), if_pos (by omega), rd_nat, if_neg hb.1, if_neg hb.2]
  · intro k hp
    simp only [impl_placeOfBits.l0]
    rw [if_neg (by omega), List.take_length]
end Go.Proofs.Yteagogcpbcickaa.Pure
set_option linter.unusedSimpArgs false
set_option linter.unusedVariables false
namespace Go.Proofs.Yteagogcpbcickaa.Pure
open Go.RowKit Go.Proofs.Yteagogcpbcickaa.G Go.Proofs.YteagogcpbcickaaW.PrintWords Go.Proofs.YteagogcpbcickaaW.PrintLast Go.Proofs.YteagogcpbcickaaW.PrintMore
theorem wraps_i64' (n : Int) (h₀ : 0 ≤ n) (h₁ : n < 2 ^ 62) : IntKind.i64.wrap n = n := by rw [IntKind.wrap_i64]; omega
theorem bit_nat (k : BinOp) (a b : Nat) (ha : a < 2 ^ 62) (hb : b < 2 ^ 62) : Go.bits .and .i64 (a : Int) (b : Int) = ((a &&& b : Nat) : Int) := (bits_nat .i64 62 (by decide) wraps_i64' a b ha hb).1
theorem and_one' {x : Int} (h0 : 0 ≤ x) (h1 : x < 4611686018427387904) : Go.bits .and .i64 x 1 = x % 2 := by
  obtain ⟨n, rfl⟩ := Int.eq_ofNat_of_zero_le h0
  have := bit_nat .and n 1 (by omega) (by decide)
  rw [show ((1 : Nat) : Int) = 1 from rfl] at this
  rw [this, Nat.and_one_is_mod]
  omega
def gbit (vs : List Int) (w : Int) : Int := Go.bits .xor .i64 (rd vs (w / 2)) (w % 2)
def gv (vs : List Int) (a : S79) : Int := Go.bits .and .i64 (gbit vs a.f0) (gbit vs a.f1)
def gvals (L : List S79) (xs : List Int) : List Int := L.foldl (fun vs a => vs ++ [gv vs a]) (0 :: xs)
theorem gvals_succ (L : List S79) (xs : List Int) (i : Nat) (hi : i < L.length) : gvals (L.take (i + 1)) xs = gvals (L.take i) xs ++ [gv (gvals (L.take i) xs) (rd_T79 L (i : Int))] := by
  unfold gvals
  rw [take_succ_getD L i z79 hi, List.foldl_append, rdA_nat]
  rfl
theorem gvals_len (L : List S79) (xs : List Int) : (gvals L xs).length = 1 + xs.length + L.length := by
  have h : ∀ (L : List S79) (ys : List Int), (L.foldl (fun vs a => vs ++ [gv vs a]) ys).length = ys.length + L.length := by
    intro L
    induction L with
    | nil => intro ys; rfl
    | cons a r ih => intro ys; rw [List.foldl_cons, ih]; simp; omega
  unfold gvals
  rw [h]
  simp
  omega
theorem rd_app (A B : List Int) {j : Int} (h0 : 0 ≤ j) (h : j < A.length) : rd (A ++ B) j = rd A j := by
  obtain ⟨n, rfl⟩ := Int.eq_ofNat_of_zero_le h0
  rw [rd_nat, rd_nat, List.getD_eq_getElem?_getD, List.getD_eq_getElem?_getD, List.getElem?_append_left (by omega)]
theorem node_bd {ins : Int} {L : List S79} (h : GOk ins L) {i : Nat} (hi : i < L.length) :
    0 ≤ ins ∧ ins ≤ 12 ∧ L.length ≤ 3000 ∧ 2 ≤ (rd_T79 L (i : Int)).f0 ∧ (rd_T79 L (i : Int)).f0 < (rd_T79 L (i : Int)).f1 ∧ (rd_T79 L (i : Int)).f1 < 2 * (ins + 1 + i) := by
  obtain ⟨h1, _, _, h4, _⟩ := h.2.2 i hi
  exact ⟨h.1.1, h.1.2, h.2.1, by omega, by omega, h4⟩
theorem half_w {x : Int} (h0 : 0 ≤ x) (h1 : x < 4611686018427387904) : wrap64 (Int.tdiv x 2) = x / 2 := by
  rw [Int.tdiv_eq_ediv_of_nonneg h0, w64 (by omega) (by omega)]
theorem impl_values_ev {ins : Int} {L : List S79} (h : GOk ins L) (xs : List Int) (hx : (xs.length : Int) = ins) : Ev (fun k => impl_Graph_values.f k ins L xs) (gvals L xs) := by
  have hb := h.1
  have hl := h.2.1
  have hs : ∀ i, i ≤ L.length → Ev (fun k => impl_Graph_values.l0 k (gvals (L.take i) xs ++ List.replicate (L.length - i) 0) L (L.length : Int) (i : Int) ins L) (gvals L xs) := by
    refine ev_loop (fun k i => impl_Graph_values.l0 k (gvals (L.take i) xs ++ List.replicate (L.length - i) 0) L (L.length : Int) (i : Int) ins L) L.length _ (fun i hi e => ev_step (fun k => ?_) e) (ev_step (f := fun _ => some (gvals L xs)) (fun k => ?_) (ev_some _))
    · obtain ⟨b0, b1, b2, b3, b4, b5⟩ := node_bd h hi
      have hlen := gvals_len (L.take i) xs
      rw [List.length_take, Nat.min_eq_left (by omega)] at hlen
      have hall : (gvals (L.take i) xs ++ List.replicate (L.length - i) (0 : Int)).length = 1 + xs.length + L.length := by rw [List.length_append, hlen, List.length_replicate]; omega
      simp only [impl_Graph_values.l0]
      rw [half_w (x := (rd_T79 L (i : Int)).f0) (by omega) (by omega), half_w (x := (rd_T79 L (i : Int)).f1) (by omega) (by omega), and_one' (x := (rd_T79 L (i : Int)).f0) (by omega) (by omega), and_one' (x := (rd_T79 L (i : Int)).f1) (by omega) (by omega),
        show wrap64 (wrap64 (ins + 1) + (i : Int)) = ((1 + xs.length + i : Nat) : Int) from by rw [w64 (n := ins + 1) (by omega) (by omega), w64 (by omega) (by omega)]; omega,
        if_pos (by omega), if_pos (by omega), if_pos (by omega), if_pos (by omega), if_pos (by omega), if_pos (by omega), if_pos (by omega), if_pos (by omega), if_pos (by omega), w64s i (by omega),
        rd_app _ _ (by omega) (by omega), rd_app _ _ (by omega) (by omega), gvals_succ L xs i hi, Int.toNat_natCast]
      congr 1
      rw [List.set_append_right _ _ (by omega), hlen, Nat.sub_self, show L.length - i = (L.length - (i + 1)) + 1 from by omega, List.replicate_succ, List.set_cons_zero, List.append_assoc]
      rfl
    · simp only [impl_Graph_values.l0]
      rw [if_neg (by omega), List.take_length, Nat.sub_self]
      simp
  refine ev_eq (f := fun k => impl_Graph_values.l0 k (gvals (L.take 0) xs ++ List.replicate (L.length - 0) 0) L (L.length : Int) ((0 : Nat) : Int) ins L) (fun k => ?_) (hs 0 (by omega))
  unfold impl_Graph_values.f
  rw [show wrap64 (wrap64 (ins + 1) + (L.length : Int)) = ((1 + xs.length + L.length : Nat) : Int) from by rw [w64 (n := ins + 1) (by omega) (by omega), w64 (by omega) (by omega)]; omega,
    if_pos (by omega), if_pos (by omega), Option.bind_some, Int.toNat_natCast, if_pos (by simp; omega)]
  congr 1
  simp only [List.length_replicate]
  rw [show List.replicate (1 + xs.length + L.length) (0 : Int) = 0 :: (List.replicate xs.length 0 ++ List.replicate L.length 0) from by rw [List.replicate_append_replicate, ← List.replicate_succ]; congr 1; omega]
  rw [show 1 + xs.length = xs.length + 1 from by omega, List.drop_succ_cons, List.drop_left' (by simp), List.take_of_length_le (l := xs) (by omega)]
  rfl
theorem bit2 : ∀ a b : Fin 2, (Go.bits .xor .i64 (a.val : Int) (b.val : Int) = 0 ∨ Go.bits .xor .i64 (a.val : Int) (b.val : Int) = 1) ∧ (Go.bits .and .i64 (a.val : Int) (b.val : Int) = 0 ∨ Go.bits .and .i64 (a.val : Int) (b.val : Int) = 1) := by decide +kernel
theorem is01 {x : Int} (h : x = 0 ∨ x = 1) : ∃ a : Fin 2, x = (a.val : Int) := by rcases h with rfl | rfl; exact ⟨0, rfl⟩; exact ⟨1, rfl⟩
theorem xor01 {x y : Int} (hx : x = 0 ∨ x = 1) (hy : y = 0 ∨ y = 1) : Go.bits .xor .i64 x y = 0 ∨ Go.bits .xor .i64 x y = 1 := by
  obtain ⟨a, rfl⟩ := is01 hx; obtain ⟨b, rfl⟩ := is01 hy; exact (bit2 a b).1
theorem and01 {x y : Int} (hx : x = 0 ∨ x = 1) (hy : y = 0 ∨ y = 1) : Go.bits .and .i64 x y = 0 ∨ Go.bits .and .i64 x y = 1 := by
  obtain ⟨a, rfl⟩ := is01 hx; obtain ⟨b, rfl⟩ := is01 hy; exact (bit2 a b).2
theorem rd01 {vs : List Int} (h : ∀ v ∈ vs, v = 0 ∨ v = 1) (j : Int) : rd vs j = 0 ∨ rd vs j = 1 := by
  unfold rd
  by_cases hj : j.toNat < vs.length
  · rw [getD_lt vs _ _ hj]; exact h _ (List.getElem_mem hj)
  · rw [List.getD_eq_getElem?_getD, List.getElem?_eq_none (by omega)]; exact .inl rfl
theorem gbit01 {vs : List Int} (h : ∀ v ∈ vs, v = 0 ∨ v = 1) (w : Int) : gbit vs w = 0 ∨ gbit vs w = 1 := xor01 (rd01 h _) (by omega)
theorem gvals01 (L : List S79) {xs : List Int} (h : ∀ v ∈ xs, v = 0 ∨ v = 1) : ∀ v ∈ gvals L xs, v = 0 ∨ v = 1 := by
  have hh : ∀ (L : List S79) (ys : List Int), (∀ v ∈ ys, v = 0 ∨ v = 1) → ∀ v ∈ L.foldl (fun vs a => vs ++ [gv vs a]) ys, v = 0 ∨ v = 1 := by
    intro L
    induction L with
    | nil => intro ys hy; exact hy
    | cons a r ih =>
      intro ys hy
      rw [List.foldl_cons]
      refine ih _ fun v hv => ?_
      rcases List.mem_append.1 hv with hv | hv
      · exact hy v hv
      · rw [List.mem_singleton.1 hv]
        exact and01 (gbit01 hy _) (gbit01 hy _)
  refine hh L _ fun v hv => ?_
  rcases List.mem_cons.1 hv with rfl | hv
  · exact .inl rfl
  · exact h v hv
def wireB (ins : Int) (n : Nat) (w : Int) : Bool := decide (0 ≤ w ∧ w ≤ 2 * (ins + n) + 1)
theorem within' (x a b : Int) : impl_within.f x a b = some (decide (a ≤ x ∧ x ≤ b)) := by
  unfold impl_within.f
  by_cases h : x ≥ a
  · rw [if_pos h]; simp [h]
  · rw [if_neg h]; simp [h]
theorem isWire_eq {ins : Int} {L : List S79} (h : GOk ins L) (w : Int) : impl_Graph_isWire.f ins L w = some (wireB ins L.length w) := by
  have hb := h.1
  have hl := h.2.1
  unfold impl_Graph_isWire.f impl_Graph_wires.f wireB
  rw [Option.bind_some, w64 (n := ins + 1) (by omega) (by omega), w64 (n := ins + 1 + (L.length : Int)) (by omega) (by omega), w64 (n := 2 * (ins + 1 + (L.length : Int))) (by omega) (by omega), w64 (by omega) (by omega), within', Option.bind_some]
  congr 1
  exact decide_eq_decide.2 (by omega)
def gvalue (ins : Int) (L : List S79) (xs : List Int) (w : Int) : Int := if GOk ins L ∧ (xs.length : Int) = ins ∧ wireB ins L.length w = true ∧ xs.all isBit = true then gbit (gvals L xs) w else -1
theorem impl_GraphValue_ev (ins : Int) (L : List S79) (xs : List Int) (w : Int) : Ev (fun k => impl_GraphValue.f k ins L xs w) (gvalue ins L xs w) := by
  have hbad : ∀ q : Int, q = -1 → Ev (fun k => impl_GraphValue.j0 k xs w true ins L) q := by
    intro q hq
    subst hq
    refine ev_step (f := fun _ => some (-1)) (fun k => ?_) (ev_some _)
    simp only [impl_GraphValue.j0]
    rw [if_pos trivial]
  unfold impl_GraphValue.f impl_GraphOk.f
  simp only [Option.bind_some]
  by_cases h : GOk ins L
  · simp only [decide_eq_true h, if_true]
    by_cases hx : (xs.length : Int) = ins
    · simp only [if_pos hx, isWire_eq h, Option.bind_some]
      cases hw : wireB ins L.length w with
      | false => exact hbad _ (by unfold gvalue; rw [if_neg (by rw [hw]; simp)])
      | true =>
        have hb := h.1
        have hw' := hw
        unfold wireB at hw'
        have hw' := of_decide_eq_true hw'
        have hl := h.2.1
        refine ev_step (f := fun k => (impl_placeOfBits.f k xs).bind fun bt104 => (if bt104.2 = true then ((impl_Graph_values.f k ins L xs).bind fun t106 => (if 0 ≤ (wrap64 (Int.tdiv w 2)) then (if (wrap64 (Int.tdiv w 2)) < (t106.length : Int) then (some (Go.bits .xor .i64 (rd t106 (wrap64 (Int.tdiv w 2))) (Go.bits .and .i64 w 1))) else (none)) else (none))) else (some (-1)))) (fun k => ?_) ?_
        · simp only [impl_GraphValue.j0]
          rw [if_neg (by decide)]
        refine ev_bind (ev_ge xs.length (placeOfBits_eq xs (by omega))) ?_
        cases ha : xs.all isBit with
        | false =>
          simp only [Bool.false_eq_true, if_false]
          unfold gvalue
          rw [if_neg (by rw [ha]; simp)]
          exact ev_some _
        | true =>
          simp only [if_true]
          refine ev_bind (impl_values_ev h xs hx) ?_
          rw [half_w (by omega) (by omega), and_one' (by omega) (by omega)]
          have hlen := gvals_len L xs
          simp only [if_pos (show 0 ≤ w / 2 by omega), if_pos (show w / 2 < ((gvals L xs).length : Int) by omega)]
          unfold gvalue
          rw [if_pos ⟨h, hx, hw, ha⟩]
          exact ev_some _
    · simp only [if_neg hx]
      exact hbad _ (by unfold gvalue; rw [if_neg (fun hh => hx hh.2.1)])
  · simp only [decide_eq_false h, if_neg (show ¬ (false = true) by decide)]
    exact hbad _ (by unfold gvalue; rw [if_neg (fun hh => h hh.1)])
end Go.Proofs.Yteagogcpbcickaa.Pure
set_option linter.unusedSimpArgs false
set_option linter.unusedVariables false
namespace Go.Proofs.Yteagogcpbcickaa.Pure
open Go.RowKit Go.Proofs.Yteagogcpbcickaa.G Go.Proofs.Yteagogcpbcickaa.Mp Go.Proofs.YteagogcpbcickaaW.PrintWords Go.Proofs.YteagogcpbcickaaW.PrintLast Go.Proofs.YteagogcpbcickaaW.PrintMore
theorem xor_div {x : Int} (h : 0 ≤ x ∧ x ≤ 1048575) : Go.bits .xor .i64 x 1 / 2 = x / 2 ∧ Go.bits .xor .i64 x 1 % 2 = 1 - x % 2 := by
  obtain ⟨n, rfl⟩ := Int.eq_ofNat_of_zero_le h.1
  have h1 := xor_nat n 1 (by omega) (by decide)
  rw [show ((1 : Nat) : Int) = 1 from rfl] at h1
  have a : (n ^^^ 1) / 2 = n / 2 := by rw [Nat.xor_div_two]; simp
  have b : (n ^^^ 1) % 2 = (n + 1) % 2 := by
    have h := Nat.xor_mod_two_pow (a := n) (b := 1) (n := 1)
    rw [Nat.pow_one] at h
    rw [h]
    rcases Nat.mod_two_eq_zero_or_one n with h0 | h0 <;> rw [h0]
    · show 1 = _; omega
    · show 0 = _; omega
  rw [h1]
  omega
def wv (L : List S79) (xs : List Int) (w : Int) : Int := gbit (gvals L xs) w
def bits01 (xs : List Int) : Prop := ∀ v ∈ xs, v = 0 ∨ v = 1
theorem wv01 (L : List S79) {xs : List Int} (h : bits01 xs) (w : Int) : wv L xs w = 0 ∨ wv L xs w = 1 := gbit01 (gvals01 L h) w
theorem not01 : ∀ a b : Fin 2, Go.bits .xor .i64 (a.val : Int) (1 - (b.val : Int)) = 1 - Go.bits .xor .i64 (a.val : Int) (b.val : Int) := by decide +kernel
theorem wv_turn (L : List S79) {xs : List Int} (h : bits01 xs) {w : Int} (hw : 0 ≤ w ∧ w ≤ 1048575) : wv L xs (Go.bits .xor .i64 w 1) = 1 - wv L xs w := by
  unfold wv gbit
  rw [(xor_div hw).1, (xor_div hw).2]
  obtain ⟨a, ha⟩ := is01 (rd01 (gvals01 L h) (w / 2))
  obtain ⟨b, hb⟩ := is01 (show w % 2 = 0 ∨ w % 2 = 1 by omega)
  rw [ha, hb]
  exact not01 a b
theorem gvals_foldl (A : List S79) : ∀ ys : List Int, ∃ C, A.foldl (fun vs a => vs ++ [gv vs a]) ys = ys ++ C := by
  induction A with
  | nil => intro ys; exact ⟨[], by simp⟩
  | cons a r ih =>
    intro ys
    obtain ⟨C, hC⟩ := ih (ys ++ [gv ys a])
    exact ⟨gv ys a :: C, by rw [List.foldl_cons, hC]; simp⟩
theorem gvals_split (A B : List S79) (xs : List Int) : ∃ C, gvals (A ++ B) xs = gvals A xs ++ C := by
  unfold gvals
  rw [List.foldl_append]
  exact gvals_foldl B _
theorem wv_ext (A B : List S79) (xs : List Int) {w : Int} (hw : 0 ≤ w) (h : w < 2 * ((xs.length : Int) + 1 + A.length)) : wv (A ++ B) xs w = wv A xs w := by
  obtain ⟨C, hC⟩ := gvals_split A B xs
  have hl := gvals_len A xs
  unfold wv gbit
  rw [hC, rd_app _ _ (by omega) (by omega)]
theorem take_wv (L : List S79) (xs : List Int) (i : Nat) (hi : i ≤ L.length) {w : Int} (hw : 0 ≤ w) (h : w < 2 * ((xs.length : Int) + 1 + i)) : wv L xs w = wv (L.take i) xs w := by
  have e := wv_ext (L.take i) (L.drop i) xs hw (by rw [List.length_take, Nat.min_eq_left hi]; exact h)
  rwa [List.take_append_drop] at e
theorem xor0 : ∀ a : Fin 2, Go.bits .xor .i64 (a.val : Int) 0 = (a.val : Int) := by decide +kernel
theorem wv_node {ins : Int} {L : List S79} (hg : ∀ i, i < L.length → okAnd ins L i) {xs : List Int} (hb : bits01 xs) (hx : (xs.length : Int) = ins) {i : Nat} (hi : i < L.length) :
    wv L xs (2 * (ins + 1 + (i : Int))) = Go.bits .and .i64 (wv L xs (rd_T79 L (i : Int)).f0) (wv L xs (rd_T79 L (i : Int)).f1) := by
  obtain ⟨h1, h2, _, h4, _⟩ := hg i hi
  have hl := gvals_len (L.take i) xs
  rw [List.length_take, Nat.min_eq_left (by omega)] at hl
  rw [take_wv L xs i (by omega) (w := (rd_T79 L (i : Int)).f0) (by omega) (by omega), take_wv L xs i (by omega) (w := (rd_T79 L (i : Int)).f1) (by omega) (by omega), take_wv L xs (i + 1) (by omega) (w := 2 * (ins + 1 + (i : Int))) (by omega) (by omega)]
  have hz := and01 (wv01 (L.take i) hb (rd_T79 L (i : Int)).f0) (wv01 (L.take i) hb (rd_T79 L (i : Int)).f1)
  unfold wv at hz ⊢
  rw [gvals_succ L xs i hi]
  have hr : rd (gvals (L.take i) xs ++ [gv (gvals (L.take i) xs) (rd_T79 L (i : Int))]) (2 * (ins + 1 + (i : Int)) / 2) = gv (gvals (L.take i) xs) (rd_T79 L (i : Int)) := by
    rw [show 2 * (ins + 1 + (i : Int)) / 2 = (((gvals (L.take i) xs).length : Nat) : Int) by omega, rd_nat]
    simp [List.getD_eq_getElem?_getD]
  conv => lhs; unfold gbit
  rw [hr, show 2 * (ins + 1 + (i : Int)) % 2 = 0 by omega]
  unfold gv
  obtain ⟨a, ha⟩ := is01 hz
  rw [ha]
  exact xor0 a
structure Good (ins : Int) (L : List S79) (r : List S79 × Int) (f : List Int → Int) : Prop where
  ok : GOk ins r.1
  wire : 0 ≤ r.2 ∧ r.2 < 2 * (ins + 1 + r.1.length)
  ext : ∃ B, r.1 = L ++ B
  val : ∀ xs, bits01 xs → (xs.length : Int) = ins → wv r.1 xs r.2 = f xs
theorem and_c0 : ∀ a : Fin 2, Go.bits .and .i64 0 (a.val : Int) = 0 ∧ Go.bits .and .i64 (a.val : Int) 0 = 0 ∧ Go.bits .and .i64 1 (a.val : Int) = (a.val : Int) ∧ Go.bits .and .i64 (a.val : Int) 1 = (a.val : Int) ∧ Go.bits .and .i64 (a.val : Int) (a.val : Int) = (a.val : Int) ∧ Go.bits .and .i64 (1 - (a.val : Int)) (a.val : Int) = 0 := by decide +kernel
theorem and_comm01 : ∀ a b : Fin 2, Go.bits .and .i64 (a.val : Int) (b.val : Int) = Go.bits .and .i64 (b.val : Int) (a.val : Int) := by decide +kernel
theorem wv_zero (L : List S79) (xs : List Int) : wv L xs 0 = 0 ∧ wv L xs 1 = 1 := by
  obtain ⟨C, hC⟩ := gvals_split [] L xs
  rw [List.nil_append] at hC
  unfold wv gbit
  rw [hC]
  have h : rd (gvals [] xs ++ C) 0 = 0 := rfl
  rw [show (0 : Int) / 2 = 0 by decide, show (1 : Int) / 2 = 0 by decide, h]
  exact ⟨by decide +kernel, by decide +kernel⟩
theorem isW_lt {ins : Int} {L : List S79} {x : Int} (h : isW ins L x = true) : 0 ≤ x ∧ x < 2 * (ins + 1 + L.length) := of_decide_eq_true h
theorem isW_ext {ins : Int} {L B : List S79} {x : Int} (h : isW ins L x = true) : isW ins (L ++ B) x = true := by
  have := isW_lt h
  unfold isW
  rw [List.length_append]
  exact decide_eq_true (by omega)
theorem rdA_mem {L : List S79} {K : S79} (h : K ∈ L) : ∃ i : Nat, i < L.length ∧ rd_T79 L (i : Int) = K := by
  obtain ⟨i, hi, rfl⟩ := List.mem_iff_getElem.1 h
  exact ⟨i, hi, by rw [rdA_nat, getD_lt L i _ hi]⟩
theorem mhas_at {ins : Int} {L : List S79} (hD : Dist L) {K : S79} (h : mhas (atMap ins L) K = true) : ∃ i : Nat, i < L.length ∧ rd_T79 L (i : Int) = K ∧ mget (atMap ins L) K = 2 * (ins + 1 + (i : Int)) := by
  obtain ⟨p, hp, he⟩ := (mhas_iff K _).1 h
  obtain ⟨i, hi, rfl⟩ := (mem_at ins L p).1 hp
  exact ⟨i, hi, he, (at_found hD hi he).2⟩
theorem andR_good {ins : Int} {L : List S79} (hg : GOk ins L) {x y : Int} (hx : isW ins L x = true) (hy : isW ins L y = true) (hr : 0 ≤ (andR ins L x y).2) :
    Good ins L (andR ins L x y) (fun xs => Go.bits .and .i64 (wv L xs x) (wv L xs y)) ∧ (andR ins L x y).1.length ≤ L.length + 1 := by
  have lx := isW_lt hx
  have ly := isW_lt hy
  have bx := isW_bd hx hg.ins hg.len
  have bY := isW_bd hy hg.ins hg.len
  have hD := GOk.dist hg
  have hlen := hg.2.1
  have hin := hg.1
  have hok := hg.2.2
  have self : ∀ w : Int, 0 ≤ w → w < 2 * (ins + 1 + L.length) → (∀ xs, bits01 xs → (xs.length : Int) = ins → wv L xs w = Go.bits .and .i64 (wv L xs x) (wv L xs y)) →
      Good ins L (L, w) (fun xs => Go.bits .and .i64 (wv L xs x) (wv L xs y)) ∧ (L, w).1.length ≤ L.length + 1 := fun w h0 h1 h2 => ⟨⟨hg, ⟨h0, h1⟩, ⟨[], by simp⟩, h2⟩, by simp⟩
  have hE : andR ins L x y = andR ins L x y := rfl
  conv at hE => rhs; unfold andR
  by_cases c1 : x = 0
  · rw [if_pos c1] at hE
    rw [hE]
    refine self 0 (by omega) (by omega) fun xs hb _ => ?_
    obtain ⟨a, ha⟩ := is01 (wv01 L hb y)
    rw [c1, (wv_zero L xs).1, ha, (and_c0 a).1]
  rw [if_neg c1] at hE
  by_cases c2 : y = 0
  · rw [if_pos c2] at hE
    rw [hE]
    refine self 0 (by omega) (by omega) fun xs hb _ => ?_
    obtain ⟨a, ha⟩ := is01 (wv01 L hb x)
    rw [c2, (wv_zero L xs).1, ha, (and_c0 a).2.1]
  rw [if_neg c2] at hE
  by_cases c3 : x = Go.bits .xor .i64 y 1
  · rw [if_pos c3] at hE
    rw [hE]
    refine self 0 (by omega) (by omega) fun xs hb _ => ?_
    have ht := wv_turn L hb bY
    obtain ⟨a, ha⟩ := is01 (wv01 L hb y)
    rw [(wv_zero L xs).1, c3, ht, ha, (and_c0 a).2.2.2.2.2]
  rw [if_neg c3] at hE
  by_cases c4 : x = 1
  · rw [if_pos c4] at hE
    rw [hE]
    refine self y (by omega) (by omega) fun xs hb _ => ?_
    obtain ⟨a, ha⟩ := is01 (wv01 L hb y)
    rw [c4, (wv_zero L xs).2, ha, (and_c0 a).2.2.1]
  rw [if_neg c4] at hE
  by_cases c5 : y = 1
  · rw [if_pos c5] at hE
    rw [hE]
    refine self x (by omega) (by omega) fun xs hb _ => ?_
    obtain ⟨a, ha⟩ := is01 (wv01 L hb x)
    rw [c5, (wv_zero L xs).2, ha, (and_c0 a).2.2.2.1]
  rw [if_neg c5] at hE
  by_cases c6 : x = y
  · rw [if_pos c6] at hE
    rw [hE]
    refine self x (by omega) (by omega) fun xs hb _ => ?_
    obtain ⟨a, ha⟩ := is01 (wv01 L hb x)
    rw [← c6, ha, (and_c0 a).2.2.2.2.1]
  rw [if_neg c6] at hE
  have hmm : ∀ xs, bits01 xs → Go.bits .and .i64 (wv L xs (min x y)) (wv L xs (max x y)) = Go.bits .and .i64 (wv L xs x) (wv L xs y) := by
    intro xs hb
    by_cases hxy : x ≤ y
    · rw [show min x y = x by omega, show max x y = y by omega]
    · rw [show min x y = y by omega, show max x y = x by omega]
      obtain ⟨a, ha⟩ := is01 (wv01 L hb x)
      obtain ⟨b, hb'⟩ := is01 (wv01 L hb y)
      rw [ha, hb']
      exact and_comm01 b a
  by_cases c7 : mhas (atMap ins L) ⟨min x y, max x y⟩ = true
  · rw [if_pos c7] at hE
    rw [hE]
    obtain ⟨i, hi, he, hm⟩ := mhas_at hD c7
    rw [hm]
    refine self _ (by omega) (by omega) fun xs hb hx => ?_
    rw [wv_node hok hb hx hi, he]
    exact hmm xs hb
  rw [if_neg c7] at hE
  by_cases c8 : 3000 ≤ L.length
  · rw [if_pos c8] at hE
    rw [hE] at hr
    exact absurd (show (0 : Int) ≤ -1 from hr) (by decide)
  rw [if_neg c8] at hE
  rw [hE]
  have hxy : x / 2 ≠ y / 2 := by
    intro h
    have := xor_div bY
    exact c3 (by omega)
  have hnew : ∀ i : Nat, i < L.length → rd_T79 L (i : Int) ≠ ⟨min x y, max x y⟩ := fun i hi he => c7 (at_found hD hi he).1
  have hok2 : ∀ i, i < (L ++ [(⟨min x y, max x y⟩ : S79)]).length → okAnd ins (L ++ [⟨min x y, max x y⟩]) i := by
    intro i hi
    rw [List.length_append, List.length_singleton] at hi
    by_cases hil : i < L.length
    · have h := hok i hil
      unfold okAnd at h ⊢
      rw [Go.Proofs.Yteagogcpbcickaa.G.rd_app L _ i hil, List.take_append_of_le_length (by omega)]
      exact h
    · have : i = L.length := by omega
      subst this
      unfold okAnd
      rw [rd_last, List.take_left']
      · refine ⟨by show ¬ min x y < 2; omega, by show ¬ max x y ≤ min x y; omega, ?_, by show max x y < _; omega, fun hm => ?_⟩
        · show ¬ wrap64 (Int.tdiv (min x y) 2) = wrap64 (Int.tdiv (max x y) 2)
          rw [half_w (by omega) (by omega), half_w (by omega) (by omega)]
          omega
        · obtain ⟨j, hj, he⟩ := rdA_mem hm
          exact hnew j hj he
      · rfl
  have hg2 : GOk ins (L ++ [⟨min x y, max x y⟩]) := ⟨hin, by rw [List.length_append, List.length_singleton]; omega, hok2⟩
  refine ⟨⟨hg2, by rw [List.length_append, List.length_singleton]; dsimp only; omega, ⟨_, rfl⟩, fun xs hb hx => ?_⟩, by simp⟩
  have h := wv_node (i := L.length) hok2 hb hx (by simp)
  rw [rd_last] at h
  dsimp only
  rw [h]
  dsimp only
  rw [wv_ext L _ xs (w := min x y) (by omega) (by omega), wv_ext L _ xs (w := max x y) (by omega) (by omega)]
  exact hmm xs hb
theorem isW_of {ins : Int} {L : List S79} {x : Int} (h : 0 ≤ x ∧ x < 2 * (ins + 1 + L.length)) : isW ins L x = true := decide_eq_true h
theorem isW_turn {ins : Int} {L : List S79} {x : Int} (hg : GOk ins L) (h : isW ins L x = true) : isW ins L (Go.bits .xor .i64 x 1) = true := by
  have l := isW_lt h
  have b := isW_bd h hg.ins hg.len
  have d := xor_div b
  exact isW_of (by omega)
theorem or_c : ∀ a b : Fin 2, 1 - Go.bits .and .i64 (1 - (a.val : Int)) (1 - (b.val : Int)) = Go.bits .or .i64 (a.val : Int) (b.val : Int) := by decide +kernel
theorem orR_good {ins : Int} {L : List S79} (hg : GOk ins L) {x y : Int} (hx : isW ins L x = true) (hy : isW ins L y = true) (hr : 0 ≤ (orR ins L x y).2) :
    Good ins L (orR ins L x y) (fun xs => Go.bits .or .i64 (wv L xs x) (wv L xs y)) ∧ (orR ins L x y).1.length ≤ L.length + 1 := by
  have bx := isW_bd hx hg.ins hg.len
  have bY := isW_bd hy hg.ins hg.len
  have b := andR_bd hg.ins hg.len (turn_bd bx) (turn_bd bY)
  unfold orR at hr ⊢
  dsimp only at hr
  by_cases c : (andR ins L (Go.bits .xor .i64 x 1) (Go.bits .xor .i64 y 1)).2 < 0
  · rw [if_pos c] at hr; exact absurd (show (0 : Int) ≤ -1 from hr) (by decide)
  rw [if_neg c]
  obtain ⟨g, hl⟩ := andR_good hg (isW_turn hg hx) (isW_turn hg hy) (by omega)
  refine ⟨⟨g.ok, ?_, g.ext, fun xs hb hxs => ?_⟩, hl⟩
  · exact isW_lt (isW_turn g.ok (isW_of g.wire))
  · have hv := g.val xs hb hxs
    try dsimp only at hv
    rw [wv_turn _ hb (isW_bd (isW_of g.wire) g.ok.ins g.ok.len), hv, wv_turn L hb bx, wv_turn L hb bY]
    obtain ⟨p, hp⟩ := is01 (wv01 L hb x)
    obtain ⟨q, hq⟩ := is01 (wv01 L hb y)
    rw [hp, hq]
    exact or_c p q
theorem pick_c : ∀ a p q : Fin 2, Go.bits .or .i64 (Go.bits .and .i64 (a.val : Int) (p.val : Int)) (Go.bits .and .i64 (1 - (a.val : Int)) (q.val : Int)) = if (a.val : Int) = 1 then (p.val : Int) else (q.val : Int) := by decide +kernel
theorem pickR_good {ins : Int} {L : List S79} (hg : GOk ins L) {x p q : Int} (hx : isW ins L x = true) (hp : isW ins L p = true) (hq : isW ins L q = true) (hr : 0 ≤ (pickR ins L x p q).2) :
    Good ins L (pickR ins L x p q) (fun xs => if wv L xs x = 1 then wv L xs p else wv L xs q) ∧ (pickR ins L x p q).1.length ≤ L.length + 3 := by
  have bx := isW_bd hx hg.ins hg.len
  unfold pickR at hr ⊢
  by_cases c1 : (andR ins L x p).2 < 0
  · rw [if_pos c1] at hr; exact absurd (show (0 : Int) ≤ -1 from hr) (by decide)
  rw [if_neg c1] at hr ⊢
  obtain ⟨g1, l1⟩ := andR_good hg hx hp (by omega)
  obtain ⟨⟨r1, w1⟩, e1⟩ : ∃ q, andR ins L x p = q := ⟨_, rfl⟩
  simp only [e1] at hr c1 g1 l1 ⊢
  obtain ⟨B1, rfl⟩ := g1.ext
  by_cases c2 : (andR ins (L ++ B1) (Go.bits .xor .i64 x 1) q).2 < 0
  · rw [if_pos c2] at hr; exact absurd (show (0 : Int) ≤ -1 from hr) (by decide)
  rw [if_neg c2] at hr ⊢
  obtain ⟨g2, l2⟩ := andR_good (L := L ++ B1) g1.ok (isW_ext (isW_turn hg hx)) (isW_ext hq) (show 0 ≤ (andR ins (L ++ B1) (Go.bits .xor .i64 x 1) q).2 by omega)
  obtain ⟨⟨r2, w2⟩, e2⟩ : ∃ q', andR ins (L ++ B1) (Go.bits .xor .i64 x 1) q = q' := ⟨_, rfl⟩
  simp only [e2] at hr c2 g2 l2 ⊢
  obtain ⟨B2, rfl⟩ := g2.ext
  have h1 : isW ins (L ++ B1) w1 = true := isW_of g1.wire
  obtain ⟨g3, l3⟩ := orR_good (L := L ++ B1 ++ B2) g2.ok (isW_ext h1) (isW_of g2.wire) hr
  dsimp only at l1 l2 l3
  refine ⟨⟨g3.ok, g3.wire, ?_, fun xs hb hxs => ?_⟩, by omega⟩
  · obtain ⟨B3, h3⟩ := g3.ext
    exact ⟨B1 ++ B2 ++ B3, by rw [h3]; simp⟩
  · have lx := isW_lt hx
    have lp := isW_lt hp
    have lq := isW_lt hq
    have lt := isW_lt (isW_turn hg hx)
    have lw := g1.wire
    have v1 := g1.val xs hb hxs
    have v2 := g2.val xs hb hxs
    have v3 := g3.val xs hb hxs
    try dsimp only at v1
    try dsimp only at v2
    try dsimp only at v3
    try dsimp only at lw
    rw [v3, v2, wv_ext (L ++ B1) B2 xs lw.1 (by omega), v1, wv_ext L B1 xs lt.1 (by omega), wv_ext L B1 xs lq.1 (by omega), wv_turn L hb bx]
    obtain ⟨a, ha⟩ := is01 (wv01 L hb x)
    obtain ⟨b, hb'⟩ := is01 (wv01 L hb p)
    obtain ⟨c, hc⟩ := is01 (wv01 L hb q)
    rw [ha, hb', hc]
    exact pick_c a b c
theorem andR_swap {ins : Int} {L : List S79} (hg : GOk ins L) {x y : Int} (hx : isW ins L x = true) (hy : isW ins L y = true) (hr : 0 ≤ (andR ins L x y).2) :
    andR ins (andR ins L x y).1 y x = andR ins L x y := by
  have bx := isW_bd hx hg.ins hg.len
  have bY := isW_bd hy hg.ins hg.len
  have hD := GOk.dist hg
  have tx := turn_turn bx
  have tY := turn_turn bY
  have hE : andR ins L x y = andR ins L x y := rfl
  conv at hE => rhs; unfold andR
  have u : ∀ M, andR ins M y x = if y = 0 then (M, 0) else if x = 0 then (M, 0) else if x = Go.bits .xor .i64 y 1 then (M, 0) else if y = 1 then (M, x) else if x = 1 then (M, y) else if x = y then (M, x)
      else if mhas (atMap ins M) ⟨min x y, max x y⟩ = true then (M, mget (atMap ins M) ⟨min x y, max x y⟩) else if 3000 ≤ M.length then (M, -1) else (M ++ [⟨min x y, max x y⟩], 2 * (ins + 1 + M.length)) := by
    intro M
    unfold andR
    rw [show min y x = min x y by omega, show max y x = max x y by omega]
    by_cases h : x = y
    · subst h; rfl
    have e1 : (y = Go.bits .xor .i64 x 1) = (x = Go.bits .xor .i64 y 1) := propext ⟨fun h => by rw [h, tx], fun h => by rw [h, tY]⟩
    have e2 : (y = x) = (x = y) := propext ⟨Eq.symm, Eq.symm⟩
    simp only [e1, e2, if_neg h]
  by_cases c1 : x = 0
  · rw [if_pos c1] at hE; rw [hE]; dsimp only; rw [u]
    by_cases c2 : y = 0
    · rw [if_pos c2]
    · rw [if_neg c2, if_pos c1]
  rw [if_neg c1] at hE
  by_cases c2 : y = 0
  · rw [if_pos c2] at hE; rw [hE]; dsimp only; rw [u, if_pos c2]
  rw [if_neg c2] at hE
  by_cases c3 : x = Go.bits .xor .i64 y 1
  · rw [if_pos c3] at hE; rw [hE]; dsimp only; rw [u, if_neg c2, if_neg c1, if_pos c3]
  rw [if_neg c3] at hE
  by_cases c4 : x = 1
  · rw [if_pos c4] at hE; rw [hE]; dsimp only; rw [u, if_neg c2, if_neg c1, if_neg c3]
    by_cases c5 : y = 1
    · rw [if_pos c5, c4, c5]
    · rw [if_neg c5, if_pos c4]
  rw [if_neg c4] at hE
  by_cases c5 : y = 1
  · rw [if_pos c5] at hE; rw [hE]; dsimp only; rw [u, if_neg c2, if_neg c1, if_neg c3, if_pos c5]
  rw [if_neg c5] at hE
  by_cases c6 : x = y
  · rw [if_pos c6] at hE; rw [hE]; dsimp only; rw [u, if_neg c2, if_neg c1, if_neg c3, if_neg c5, if_neg c4, if_pos c6]
  rw [if_neg c6] at hE
  by_cases c7 : mhas (atMap ins L) ⟨min x y, max x y⟩ = true
  · rw [if_pos c7] at hE; rw [hE]; dsimp only; rw [u, if_neg c2, if_neg c1, if_neg c3, if_neg c5, if_neg c4, if_neg c6, if_pos c7]
  rw [if_neg c7] at hE
  by_cases c8 : 3000 ≤ L.length
  · rw [if_pos c8] at hE; rw [hE] at hr; exact absurd (show (0 : Int) ≤ -1 from hr) (by decide)
  rw [if_neg c8] at hE
  rw [hE]
  dsimp only
  have hnew : ∀ i : Nat, i < L.length → rd_T79 L (i : Int) ≠ ⟨min x y, max x y⟩ := fun i hi he => c7 (at_found hD hi he).1
  have hf := at_found (ins := ins) (hD.app hnew) (i := L.length) (by simp) (rd_last L ⟨min x y, max x y⟩)
  rw [u, if_neg c2, if_neg c1, if_neg c3, if_neg c5, if_neg c4, if_neg c6, if_pos hf.1, hf.2]
end Go.Proofs.Yteagogcpbcickaa.Pure
set_option linter.unusedSimpArgs false
set_option linter.unusedVariables false
namespace Go.Proofs.Yteagogcpbcickaa.Pure
open Go.RowKit Go.Proofs.Yteagogcpbcickaa.G Go.Proofs.YteagogcpbcickaaW.PrintWords Go.Proofs.YteagogcpbcickaaW.PrintLast Go.Proofs.YteagogcpbcickaaW.PrintMore
theorem pow_cast' (j : Nat) : (2 : Int) ^ j = ((2 ^ j : Nat) : Int) := by norm_cast
end Go.Proofs.Yteagogcpbcickaa.Pure
set_option linter.unusedSimpArgs false
set_option linter.unusedVariables false
namespace Go.Proofs.Yteagogcpbcickaa.Pure
open Go.RowKit Go.Proofs.Yteagogcpbcickaa.G Go.Proofs.Yteagogcpbcickaa.Mp Go.Proofs.YteagogcpbcickaaW.PrintWords Go.Proofs.YteagogcpbcickaaW.PrintLast Go.Proofs.YteagogcpbcickaaW.PrintMore
def tv : List Bool → List Int → Bool
  | l, [] => l.getD 0 false
  | l, b :: bs => tv (halfL l (b == 1)) bs
theorem half_contains {l : List Bool} {b : Bool} (h : Bool) (hc : l.contains b = false) : (halfL l h).contains b = false := by
  rw [← Bool.not_eq_true, List.contains_iff_mem] at hc ⊢
  intro hm
  apply hc
  cases h
  · exact List.mem_of_mem_take hm
  · exact List.mem_of_mem_drop hm
theorem tv_const (b : Bool) : ∀ (xs : List Int) (l : List Bool), l.length = 2 ^ xs.length → l.contains (!b) = false → tv l xs = b := by
  intro xs
  induction xs with
  | nil =>
    intro l hl hc
    match l, hl with
    | [x], _ => cases b <;> cases x <;> simp_all [tv]
  | cons a r ih =>
    intro l hl hc
    simp only [tv]
    exact ih _ (halfL_len (by simpa using hl) _) (half_contains _ hc)
theorem tv_known {l : List Bool} {xs : List Int} (hl : l.length = 2 ^ xs.length) (h : 0 ≤ knownL l) : knownL l = b01 (tv l xs) := by
  unfold knownL at h ⊢
  cases h1 : l.contains true with
  | false => rw [tv_const false xs l hl (by simpa using h1)]; rfl
  | true =>
    rw [h1] at h
    cases h0 : l.contains false with
    | false => rw [tv_const true xs l hl (by simpa using h0)]; rfl
    | true => rw [h0] at h; exact absurd h (by decide)
theorem andR_room {ins : Int} (h0 : 0 ≤ ins) {L : List S79} (hL : L.length < 3000) {x y : Int} (hx : 0 ≤ x) (hy : 0 ≤ y) : 0 ≤ (andR ins L x y).2 := by
  unfold andR
  have hm := mget_at ins L ⟨min x y, max x y⟩
  repeat' split
  all_goals first | (dsimp only; omega) | (rcases hm with h | ⟨i, hi, h⟩ <;> (dsimp only; rw [h]; omega)) | omega
theorem andR_grow {ins : Int} {L : List S79} {x y : Int} : (andR ins L x y).1.length ≤ L.length + 1 := by
  unfold andR
  repeat' split
  all_goals first | (dsimp only; omega) | (simp only [List.length_append, List.length_singleton]; omega)
theorem pickR_room {ins : Int} {L : List S79} (hg : GOk ins L) (hL : L.length + 3 ≤ 3000) {x p q : Int} (hx : isW ins L x = true) (hp : isW ins L p = true) (hq : isW ins L q = true) : 0 ≤ (pickR ins L x p q).2 := by
  have lx := isW_lt hx
  have lp := isW_lt hp
  have lq := isW_lt hq
  have bx := isW_bd hx hg.ins hg.len
  have hi := hg.1
  have g1 := andR_room (ins := ins) (by omega) (L := L) (by omega) (x := x) (y := p) (by omega) (by omega)
  have l1 := andR_grow (ins := ins) (L := L) (x := x) (y := p)
  have b1 := andR_bd hg.ins hg.len bx (isW_bd hp hg.ins hg.len)
  have g2 := andR_room (ins := ins) (by omega) (L := (andR ins L x p).1) (by omega) (x := Go.bits .xor .i64 x 1) (y := q) (turn_bd bx).1 (by omega)
  have l2 := andR_grow (ins := ins) (L := (andR ins L x p).1) (x := Go.bits .xor .i64 x 1) (y := q)
  have b2 := andR_bd hg.ins b1.2 (turn_bd bx) (isW_bd hq hg.ins hg.len)
  unfold pickR
  rw [if_neg (by omega), if_neg (by omega)]
  unfold orR
  have g3 := andR_room (ins := ins) (by omega) (L := (andR ins (andR ins L x p).1 (Go.bits .xor .i64 x 1) q).1) (by omega) (x := Go.bits .xor .i64 (andR ins L x p).2 1) (y := Go.bits .xor .i64 (andR ins (andR ins L x p).1 (Go.bits .xor .i64 x 1) q).2 1) (turn_bd ⟨g1, b1.1.2⟩).1 (turn_bd ⟨g2, b2.1.2⟩).1
  have b3 := andR_bd (x := Go.bits .xor .i64 (andR ins L x p).2 1) (y := Go.bits .xor .i64 (andR ins (andR ins L x p).1 (Go.bits .xor .i64 x 1) q).2 1) hg.ins b2.2 (turn_bd ⟨g1, b1.1.2⟩) (turn_bd ⟨g2, b2.1.2⟩)
  dsimp only
  rw [if_neg (by omega)]
  exact (turn_bd ⟨g3, b3.1.2⟩).1
theorem wv_in (L : List S79) {xs : List Int} (hb : bits01 xs) {i : Nat} (hi : i < xs.length) : wv L xs (2 * ((i : Int) + 1)) = xs.getD i 0 := by
  obtain ⟨C, hC⟩ := gvals_split [] L xs
  rw [List.nil_append] at hC
  have h : rd (gvals [] xs ++ C) (((i + 1 : Nat) : Int)) = xs.getD i 0 := by
    rw [rd_nat]
    show ((0 :: xs) ++ C).getD (i + 1) 0 = _
    rw [List.cons_append, List.getD_cons_succ, List.getD_eq_getElem?_getD, List.getD_eq_getElem?_getD, List.getElem?_append_left hi]
  unfold wv gbit
  rw [hC, show 2 * ((i : Int) + 1) / 2 = ((i + 1 : Nat) : Int) by omega, h, show 2 * ((i : Int) + 1) % 2 = 0 by omega]
  obtain ⟨a, ha⟩ := is01 (show xs.getD i 0 = 0 ∨ xs.getD i 0 = 1 by rw [getD_lt xs i 0 hi]; exact hb _ (List.getElem_mem hi))
  rw [ha]
  exact xor0 a
theorem wireR_good : ∀ (n : Nat) (ins : Nat) (l : List Bool) (L : List S79) (i : Nat), GOk (ins : Int) L → i + n = ins → l.length = 2 ^ n → L.length + 3 * 2 ^ n ≤ 3000 →
    0 ≤ (wireR (ins : Int) n l L (i : Int)).2 ∧ Good (ins : Int) L (wireR (ins : Int) n l L (i : Int)) (fun xs => b01 (tv l (xs.drop i))) ∧ (wireR (ins : Int) n l L (i : Int)).1.length + 3 ≤ L.length + 3 * 2 ^ n := by
  intro n
  induction n with
  | zero =>
    intro ins l L i hg hi hl hL
    have hk := known_one (l := l) (by simpa using hl)
    have hb := knownL_bd l
    simp only [wireR]
    refine ⟨hk, ⟨hg, by dsimp only; omega, ⟨[], by simp⟩, fun xs hx hxl => ?_⟩, by simp⟩
    have e : knownL l = b01 (tv l (xs.drop i)) := tv_known (by rw [hl, List.length_drop]; congr 1; omega) hk
    dsimp only
    rw [e]
    cases tv l (xs.drop i)
    · exact (wv_zero L xs).1
    · exact (wv_zero L xs).2
  | succ m ih =>
    intro ins l L i hg hi hl hL
    have hp2 : 2 ^ (m + 1) = 2 * 2 ^ m := by rw [Nat.pow_succ]; omega
    have hpp : 0 < 2 ^ m := Nat.two_pow_pos m
    by_cases c1 : 0 ≤ knownL l
    · have hb := knownL_bd l
      simp only [wireR]
      rw [if_pos c1]
      refine ⟨c1, ⟨hg, by dsimp only; have := hg.1; omega, ⟨[], by simp⟩, fun xs hx hxl => ?_⟩, by dsimp only; omega⟩
      have e : knownL l = b01 (tv l (xs.drop i)) := tv_known (by rw [hl, List.length_drop]; congr 1; omega) c1
      try dsimp only
      rw [e]
      cases tv l (xs.drop i)
      · exact (wv_zero L xs).1
      · exact (wv_zero L xs).2
    obtain ⟨a0, ag, al⟩ := ih ins (halfL l false) L (i + 1) hg (by omega) (halfL_len hl _) (by omega)
    have hdrop : ∀ xs : List Int, (xs.length : Int) = (ins : Int) → tv l (xs.drop i) = tv (halfL l (xs.getD i 0 == 1)) (xs.drop (i + 1)) := by
      intro xs hxl
      rw [List.drop_eq_getElem_cons (show i < xs.length by omega), getD_lt xs i 0 (by omega)]
      rfl
    rw [show ((i + 1 : Nat) : Int) = (i : Int) + 1 by omega] at a0 ag al
    have hw : wireR (ins : Int) (m + 1) l L (i : Int) = if halfL l false = halfL l true then wireR (ins : Int) m (halfL l false) L ((i : Int) + 1) else
        if (wireR (ins : Int) m (halfL l true) (wireR (ins : Int) m (halfL l false) L ((i : Int) + 1)).1 ((i : Int) + 1)).2 < 0 then ((wireR (ins : Int) m (halfL l true) (wireR (ins : Int) m (halfL l false) L ((i : Int) + 1)).1 ((i : Int) + 1)).1, -1) else
        pickR (ins : Int) (wireR (ins : Int) m (halfL l true) (wireR (ins : Int) m (halfL l false) L ((i : Int) + 1)).1 ((i : Int) + 1)).1 (2 * ((i : Int) + 1)) (wireR (ins : Int) m (halfL l true) (wireR (ins : Int) m (halfL l false) L ((i : Int) + 1)).1 ((i : Int) + 1)).2 (wireR (ins : Int) m (halfL l false) L ((i : Int) + 1)).2 := by
      simp only [wireR]
      rw [if_neg c1, if_neg (by omega)]
    rw [hw]
    clear hw
    by_cases c3 : halfL l false = halfL l true
    · rw [if_pos c3]
      refine ⟨a0, ⟨ag.ok, ag.wire, ag.ext, fun xs hx hxl => ?_⟩, by omega⟩
      rw [ag.val xs hx hxl]
      try dsimp only
      rw [hdrop xs hxl]
      cases (xs.getD i 0 == 1)
      · rfl
      · rw [c3]
    rw [if_neg c3]
    obtain ⟨b0, bg, bl⟩ := ih ins (halfL l true) _ (i + 1) ag.ok (by omega) (halfL_len hl _) (by omega)
    rw [show ((i + 1 : Nat) : Int) = (i : Int) + 1 by omega] at b0 bg bl
    generalize wireR (ins : Int) m (halfL l false) L ((i : Int) + 1) = ra at *
    generalize wireR (ins : Int) m (halfL l true) ra.1 ((i : Int) + 1) = rb at *
    obtain ⟨ra, wa⟩ := ra
    obtain ⟨rb, wb⟩ := rb
    obtain ⟨A, rfl⟩ := ag.ext
    obtain ⟨B, hB⟩ := bg.ext
    dsimp only at *
    subst hB
    rw [if_neg (by omega)]
    have aw := ag.wire
    have bw := bg.wire
    have hi1 := hg.1
    have w1 : isW (ins : Int) (L ++ A ++ B) (2 * ((i : Int) + 1)) = true := isW_of (by omega)
    have w2 : isW (ins : Int) (L ++ A ++ B) wb = true := isW_of bw
    have w3 : isW (ins : Int) (L ++ A ++ B) wa = true := isW_ext (isW_of aw)
    have hr := pickR_room (L := L ++ A ++ B) bg.ok (show (L ++ A ++ B).length + 3 ≤ 3000 by omega) w1 w2 w3
    obtain ⟨pg, pl⟩ := pickR_good (L := L ++ A ++ B) bg.ok w1 w2 w3 hr
    refine ⟨hr, ⟨pg.ok, pg.wire, ?_, fun xs hx hxl => ?_⟩, by omega⟩
    · obtain ⟨C, hC⟩ := pg.ext
      exact ⟨A ++ B ++ C, by rw [hC]; simp⟩
    · have va := ag.val xs hx hxl
      have vb := bg.val xs hx hxl
      try dsimp only at va
      try dsimp only at vb
      try dsimp only at aw
      rw [pg.val xs hx hxl]
      try dsimp only
      rw [vb, wv_ext (L ++ A) B xs aw.1 (by omega), va, wv_in _ hx (by omega), hdrop xs hxl]
      rcases (show xs.getD i 0 = 0 ∨ xs.getD i 0 = 1 by rw [getD_lt xs i 0 (by omega)]; exact hx _ (List.getElem_mem _)) with h | h
      · rw [h, if_neg (by decide)]; rfl
      · rw [h, if_pos rfl]; rfl
end Go.Proofs.Yteagogcpbcickaa.Pure
set_option linter.unusedSimpArgs false
set_option linter.unusedVariables false
namespace Go.Proofs.Yteagogcpbcickaa.Pure
open Go.RowKit Go.Proofs.Yteagogcpbcickaa.G Go.Proofs.YteagogcpbcickaaW.PrintWords Go.Proofs.YteagogcpbcickaaW.PrintLast Go.Proofs.YteagogcpbcickaaW.PrintMore
theorem wraps_i64 (n : Int) (h₀ : 0 ≤ n) (h₁ : n < 2 ^ 62) : IntKind.i64.wrap n = n := by rw [IntKind.wrap_i64]; omega
end Go.Proofs.Yteagogcpbcickaa.Pure
set_option linter.unusedSimpArgs false
set_option linter.unusedVariables false
namespace Go.Proofs.Yteagogcpbcickaa.Pure
open Go.RowKit Go.Proofs.Yteagogcpbcickaa.G Go.Proofs.YteagogcpbcickaaW.PrintWords Go.Proofs.YteagogcpbcickaaW.PrintLast Go.Proofs.YteagogcpbcickaaW.PrintMore
theorem and255 (x : Int) : 0 ≤ Go.bits .and .i64 x 255 ∧ Go.bits .and .i64 x 255 ≤ 255 := by
  simp only [Go.bits, BitVec.toNat_and]
  have h : (BitVec.ofInt IntKind.i64.bits x).toNat &&& (BitVec.ofInt IntKind.i64.bits 255).toNat ≤ 255 := Nat.le_trans Nat.and_le_right (by decide)
  rw [wraps_i64 _ (by omega) (by omega)]
  omega
def stOk (b : List Int) (i : Int) : Prop := 0 ≤ i ∧ i ≤ b.length ∧ b.length ≤ 1099511627776
theorem byte_ok {b : List Int} {i : Int} (h : Int) (hi : stOk b i) : ∃ v i' h', spec_l01Byte.f b i h = some (v, i', h') ∧ 0 ≤ v ∧ v ≤ 255 ∧ stOk b i' := by
  unfold spec_l01Byte.f
  obtain ⟨h0, h1, h2⟩ := hi
  by_cases hc : i < (b.length : Int)
  · rw [if_pos hc, if_pos h0]
    exact ⟨_, _, _, rfl, (and255 _).1, (and255 _).2, by rw [w64 (by omega) (by omega)]; exact ⟨by omega, by omega, h2⟩⟩
  · rw [if_neg hc]
    exact ⟨_, _, _, rfl, (and255 _).1, (and255 _).2, h0, h1, h2⟩
theorem below_ok {b : List Int} {i : Int} (h a : Int) (hi : stOk b i) (h0 : 0 < a) (h1 : a ≤ 256) : ∃ v i' h', spec_l01Below.f b i h a = some (v, i', h') ∧ 0 ≤ v ∧ v < a ∧ stOk b i' := by
  unfold spec_l01Below.f
  obtain ⟨v, i', h', e, hv0, hv1, hi'⟩ := byte_ok h hi
  rw [if_neg (by omega), if_pos h1, e, Option.bind_some, if_neg (by omega)]
  refine ⟨_, _, _, rfl, ?_, ?_, hi'⟩
  · simp only; rw [Int.tmod_eq_emod_of_nonneg hv0]; exact Int.emod_nonneg _ (by omega)
  · simp only; rw [Int.tmod_eq_emod_of_nonneg hv0]; exact Int.emod_lt_of_pos _ h0
theorem once_ok {b : List Int} {i : Int} (h a : Int) (hi : stOk b i) (h0 : 0 < a) (h1 : a ≤ 256) : ∃ t i' h', spec_l01Once.f b i h a = some (t, i', h') ∧ stOk b i' := by
  unfold spec_l01Once.f
  obtain ⟨v, i', h', e, _, _, hi'⟩ := below_ok h a hi h0 h1
  rw [e, Option.bind_some]
  exact ⟨_, _, _, rfl, hi'⟩
theorem pickInt_ok {b : List Int} {i : Int} (h : Int) (l : List Int) (hi : stOk b i) (h0 : 0 < l.length) (h1 : l.length ≤ 256) : ∃ v i' h', spec_l01PickInt.f b i h l = some (v, i', h') ∧ v ∈ l ∧ stOk b i' := by
  unfold spec_l01PickInt.f
  obtain ⟨v, i', h', e, hv0, hv1, hi'⟩ := below_ok h (l.length : Int) hi (by omega) (by omega)
  rw [e, Option.bind_some]
  obtain ⟨n, rfl⟩ := Int.eq_ofNat_of_zero_le hv0
  rw [if_pos (by simp), if_pos (by simpa using hv1), rd_nat, getD_lt l n 0 (by omega)]
  exact ⟨_, _, _, rfl, List.getElem_mem _, hi'⟩
theorem st_zero {b : List Int} (hb : b.length ≤ 1099511627776) : stOk b 0 := ⟨by omega, by omega, hb⟩
theorem table_fill (n : Int) (b : List Int) (i h : Int) (xs : List Int) (hx : xs.length ≤ 4096) : ∀ k, xs.length < k → spec_l06Table.l1 k n xs 0 b i h = some (n, ones (List.replicate xs.length true), i, h) := by
  intro k hk
  rw [← strOfNums_ones, List.map_replicate]
  have h1 := rounds (fun k j => spec_l06Table.l1 k n ((List.replicate xs.length (sgn true)).take j ++ xs.drop j) (j : Int) b i h) xs.length (n, strOfNums (List.replicate xs.length (sgn true)), i, h) ?_ ?_ k hk
  · simpa using h1
  · intro k j hj
    simp only [spec_l06Table.l1]
    rw [if_pos (by simp; omega), if_pos (by omega), w64s j (by omega), Int.toNat_natCast, show (49 : Int) = sgn true from rfl, set_front (List.replicate xs.length (sgn true)) xs j (sgn true) (by simp) hj (by simp [hj])]
  · intro k
    simp only [spec_l06Table.l1]
    rw [if_neg (by simp), List.take_of_length_le (by simp)]
    simp
theorem bit_sgn {v : Int} (h0 : 0 ≤ v) (h1 : v < 2) : wrap64 (48 + v) % 256 = sgn (v == 1) := by
  rcases (show v = 0 ∨ v = 1 by omega) with h | h <;> subst h <;> decide +kernel
end Go.Proofs.Yteagogcpbcickaa.Pure
set_option linter.unusedSimpArgs false
set_option linter.unusedVariables false
namespace Go.Proofs.Yteagogcpbcickaa.Pure
open Go.RowKit Go.Proofs.Yteagogcpbcickaa.G Go.Proofs.Yteagogcpbcickaa.Mp Go.Proofs.YteagogcpbcickaaW.PrintWords Go.Proofs.YteagogcpbcickaaW.PrintLast Go.Proofs.YteagogcpbcickaaW.PrintMore
theorem gok_nil {ins : Int} (h : 0 ≤ ins ∧ ins ≤ 12) : GOk ins ([] : List S79) := ⟨h, by simp, fun i hi => absurd hi (Nat.not_lt_zero i)⟩
theorem gok_wf {ins : Int} {L : List S79} (h : GOk ins L) : WfA L := by
  intro x hx
  obtain ⟨i, hi, rfl⟩ := rdA_mem hx
  exact h.wf i hi
theorem graphOf_small {n : Nat} {l : List Bool} (hn : n ≤ 9) (hl : l.length = 2 ^ n) : ∃ R v, graphOfR (n : Int) (ones l) = ((n : Int), R, v) ∧ Good (n : Int) [] (R, v) (fun xs => b01 (tv l xs)) ∧ R.length ≤ 3 * 2 ^ n := by
  have hp : 2 ^ n ≤ 2 ^ 9 := Nat.pow_le_pow_right (by decide) hn
  obtain ⟨h0, hg, hlen⟩ := wireR_good n n l [] 0 (gok_nil (by omega)) (by omega) hl (by simp; omega)
  rw [show ((0 : Nat) : Int) = 0 from rfl] at h0 hg hlen
  refine ⟨(wireR (n : Int) n l [] 0).1, (wireR (n : Int) n l [] 0).2, ?_, ?_, by simp at hlen; omega⟩
  · unfold graphOfR
    rw [tok_ones (by omega) hl, if_pos rfl, flags_ones, Int.toNat_natCast]
    exact if_neg (by omega)
  · simpa using hg
theorem new_ev (b : List Int) (hb : b.length ≤ 1099511627776) : ∃ h, Ev (fun k => spec_l01New.f k b) (b, 0, h) := by
  have H : ∀ d (i : Nat) h, i + d = b.length → ∃ h', Ev (fun k => spec_l01New.l0 k b h (i : Int)) (b, 0, h') := by
    intro d
    induction d with
    | zero =>
      intro i h hi
      refine ⟨?w0, ev_succ ?p0⟩
      case p0 =>
        simp only [spec_l01New.l0, if_neg (show ¬ (i : Int) < (b.length : Int) by omega)]
        exact ev_some _
    | succ d ih =>
      intro i h hi
      by_cases h4 : (i : Int) < 4000
      · have hh := fun z => ih (i + 1) z (by omega)
        refine ⟨?w1, ev_succ ?p1⟩
        case p1 =>
          simp only [spec_l01New.l0, if_pos (show (i : Int) < (b.length : Int) by omega), if_pos h4, if_pos (show 0 ≤ (i : Int) by omega), w64s i (show i < 4611686018427387904 by omega)]
          exact (hh _).choose_spec
      · refine ⟨?w2, ev_succ ?p2⟩
        case p2 =>
          simp only [spec_l01New.l0, if_pos (show (i : Int) < (b.length : Int) by omega), if_neg h4]
          exact ev_some _
  exact H b.length 0 _ (by omega)
theorem table_ev (n : Nat) (hn : n ≤ 12) {b : List Int} {i : Int} (h : Int) (hi : stOk b i) : ∃ l i' h', Ev (fun k => spec_l06Table.f k b i h (n : Int)) ((n : Int), ones l, i', h') ∧ l.length = 2 ^ n ∧ stOk b i' := by
  have hp := pow12 hn
  have pw : Ev (fun k => spec_l01Pow2.f k (n : Int)) ((2 ^ n : Nat) : Int) := ev_ge n (fun k hk => by rw [pow2_eq n (by omega) k hk, pow_cast'])
  have H : ∀ d (j : Nat) (acc : List Bool) (m i h : Int), j + d = 2 ^ n → acc.length = j → stOk b i → ∃ l i' h', Ev (fun k => spec_l06Table.l0 k (n : Int) (acc.map sgn) m (j : Int) b i h) ((n : Int), ones l, i', h') ∧ l.length = 2 ^ n ∧ stOk b i' := by
    intro d
    induction d with
    | zero =>
      intro j acc m i h hj ha hi
      obtain ⟨t, i', h', e, hi'⟩ := once_ok h 8 hi (by omega) (by omega)
      cases t
      · refine ⟨acc, i', h', ev_succ ?_, by omega, hi'⟩
        simp only [spec_l06Table.l0]
        refine ev_bind pw ?_
        simp only [if_neg (show ¬ (j : Int) < ((2 ^ n : Nat) : Int) by omega), e, Option.bind_some, Bool.false_eq_true, if_false, strOfNums_ones]
        exact ev_some _
      · refine ⟨List.replicate (acc.map sgn).length true, i', h', ev_succ ?_, by simp; omega, hi'⟩
        simp only [spec_l06Table.l0]
        refine ev_bind pw ?_
        simp only [if_neg (show ¬ (j : Int) < ((2 ^ n : Nat) : Int) by omega), e, Option.bind_some, if_true]
        exact ev_ge _ (table_fill (n : Int) b i' h' (acc.map sgn) (by simp; omega))
    | succ d ih =>
      intro j acc m i h hj ha hi
      have next : ∀ (v : Bool) (i h : Int), stOk b i → ∃ l i' h', Ev (fun k => if (acc.map sgn).length < 140737488355328 then spec_l06Table.l0 k (n : Int) (acc.map sgn ++ [sgn v]) m (wrap64 ((j : Int) + 1)) b i h else none) ((n : Int), ones l, i', h') ∧ l.length = 2 ^ n ∧ stOk b i' := by
        intro v i h hi
        simp only [if_pos (show (acc.map sgn).length < 140737488355328 by simp; omega), w64s j (by omega), show acc.map sgn ++ [sgn v] = (acc ++ [v]).map sgn from by simp]
        exact ih (j + 1) (acc ++ [v]) m i h (by omega) (by simp; omega) hi
      obtain ⟨v, i', h', e, hv0, hv1, hi'⟩ := below_ok h 2 hi (by omega) (by omega)
      have hj0 : (j : Int) < ((2 ^ n : Nat) : Int) := by omega
      by_cases h0 : m = 0
      · have hb2 : 0 ≤ Int.tmod (wrap64 (Int.tdiv (j : Int) 2)) 2 ∧ Int.tmod (wrap64 (Int.tdiv (j : Int) 2)) 2 < 2 := by
          rw [Int.tdiv_eq_ediv_of_nonneg (by omega), w64 (by omega) (by omega), Int.tmod_eq_emod_of_nonneg (by omega)]
          omega
        obtain ⟨l, i2, h2, e2, q⟩ := next (Int.tmod (wrap64 (Int.tdiv (j : Int) 2)) 2 == 1) i' h' hi'
        refine ⟨l, i2, h2, ev_succ ?_, q⟩
        simp only [spec_l06Table.l0]
        refine ev_bind pw ?_
        simp only [if_pos hj0, e, Option.bind_some, if_pos h0, bit_sgn hb2.1 hb2.2]
        exact e2
      by_cases h1 : m = 1
      · obtain ⟨t, i2, h2, e2, hi2⟩ := once_ok h' 2 hi' (by omega) (by omega)
        cases t
        · obtain ⟨l, i3, h3, e3, q⟩ := next (v == 1) i2 h2 hi2
          refine ⟨l, i3, h3, ev_succ ?_, q⟩
          simp only [spec_l06Table.l0]
          refine ev_bind pw ?_
          simp only [if_pos hj0, e, e2, Option.bind_some, if_neg h0, if_pos h1, bit_sgn hv0 hv1, Bool.false_eq_true, if_false]
          exact e3
        · obtain ⟨l, i3, h3, e3, q⟩ := next false i2 h2 hi2
          refine ⟨l, i3, h3, ev_succ ?_, q⟩
          simp only [spec_l06Table.l0]
          refine ev_bind pw ?_
          simp only [if_pos hj0, e, e2, Option.bind_some, if_neg h0, if_pos h1, if_true]
          exact e3
      · obtain ⟨l, i3, h3, e3, q⟩ := next (v == 1) i' h' hi'
        refine ⟨l, i3, h3, ev_succ ?_, q⟩
        simp only [spec_l06Table.l0]
        refine ev_bind pw ?_
        simp only [if_pos hj0, e, Option.bind_some, if_neg h0, if_neg h1, bit_sgn hv0 hv1]
        exact e3
  obtain ⟨m, i', h', e, _, _, hi'⟩ := below_ok h 4 hi (by omega) (by omega)
  obtain ⟨l, i2, h2, e2, q⟩ := H (2 ^ n) 0 [] m i' h' (by omega) rfl hi'
  refine ⟨l, i2, h2, ?_, q⟩
  unfold spec_l06Table.f
  simp only [e, Option.bind_some]
  exact e2
theorem graph_ok {b : List Int} {i : Int} (h : Int) (hi : stOk b i) : ∃ ins L w i' h', Ev (fun k => spec_l07Graph.f k b i h) (ins, L, w, i', h') ∧ WfA L ∧ (Lit.int .i64 ins).wf = true ∧ -1 ≤ ins ∧ ins ≤ 13 ∧ L.length ≤ 49 ∧ stOk b i' := by
  obtain ⟨n, i1, h1, e1, hn0, hn1, hi1⟩ := below_ok h 5 hi (by omega) (by omega)
  obtain ⟨n, rfl⟩ := Int.eq_ofNat_of_zero_le hn0
  obtain ⟨l, i2, h2, e2, hl, hi2⟩ := table_ev n (by omega) h1 hi1
  have hp : 2 ^ n ≤ 2 ^ 4 := Nat.pow_le_pow_right (by decide) (by omega)
  obtain ⟨R, v, e3, hg, hlen⟩ := graphOf_small (n := n) (by omega) hl
  have hs := graphOf_spec_ev (n : Int) (ones l) (by rw [ones_size]; omega)
  rw [e3] at hs
  have hw := gok_wf hg.ok
  have hwf : ∀ x : Int, -1 ≤ x → x ≤ 100 → (Lit.int .i64 x).wf = true := fun x h0 h1 => WalkArith.wf_i64 (by omega)
  obtain ⟨u, i3, h3, e4, hu0, hu1, hi3⟩ := below_ok h2 18 hi2 (by omega) (by omega)
  unfold spec_l07Graph.f
  rw [e1]
  simp only [Option.bind_some]
  by_cases c0 : u = 0
  · obtain ⟨x, i4, h4, e5, hx, hi4⟩ := pickInt_ok h3 [(-1), 13, wrap64 ((n : Int) + 1), 0] hi3 (by simp) (by simp)
    rw [w64s n (by omega)] at hx e5
    simp only [List.mem_cons, List.not_mem_nil, or_false] at hx
    refine ⟨x, R, v, i4, h4, ev_bind e2 (ev_bind hs ?_), hw, hwf x (by omega) (by omega), by omega, by omega, by omega, hi4⟩
    simp only [e4, Option.bind_some, if_pos c0, w64s n (show n < 4611686018427387904 by omega), e5]
    exact ev_some _
  by_cases c1 : u = 1
  · obtain ⟨x, i4, h4, e5, hx0, hx1, hi4⟩ := below_ok h3 40 hi3 (by omega) (by omega)
    refine ⟨n, R ++ [⟨2, x⟩], v, i4, h4, ev_bind e2 (ev_bind hs ?_), ?_, hwf n (by omega) (by omega), by omega, by omega, by simp; omega, hi4⟩
    · simp only [e4, Option.bind_some, if_neg c0, if_pos c1, e5, if_pos (show R.length < 8796093022208 by omega)]
      exact ev_some _
    · intro y hy
      rcases List.mem_append.1 hy with hy | hy
      · exact hw y hy
      · rw [List.mem_singleton.1 hy]
        exact ⟨hwf 2 (by omega) (by omega), hwf x (by omega) (by omega)⟩
  by_cases c2 : u = 2
  · obtain ⟨x, i4, h4, e5, hx, hi4⟩ := pickInt_ok h3 [(-1), wrap64 ((wrap64 (2 * (wrap64 ((n : Int) + (R.length : Int))))) + 2), 0, 1] hi3 (by simp) (by simp)
    refine ⟨n, R, x, i4, h4, ev_bind e2 (ev_bind hs ?_), hw, hwf n (by omega) (by omega), by omega, by omega, by omega, hi4⟩
    simp only [e4, Option.bind_some, if_neg c0, if_neg c1, if_pos c2, e5]
    exact ev_some _
  · refine ⟨n, R, v, i3, h3, ev_bind e2 (ev_bind hs ?_), hw, hwf n (by omega) (by omega), by omega, by omega, by omega, hi3⟩
    simp only [e4, Option.bind_some, if_neg c0, if_neg c1, if_neg c2]
    exact ev_some _
theorem pick_ok {b : List Int} {i : Int} (h : Int) (hi : stOk b i) {ins : Int} {L : List S79} (h0 : -1 ≤ ins) (h1 : ins ≤ 13) (hL : L.length ≤ 49) : ∃ v i' h', spec_l07Pick.f b i h ins L = some (v, i', h') ∧ stOk b i' := by
  have hm : ∃ m, spec_l01Mod.f ins 20 = some m ∧ 0 ≤ m ∧ m < 20 := by
    unfold spec_l01Mod.f
    rw [if_neg (by decide)]
    by_cases hi : 0 ≤ ins
    · rw [Int.tmod_eq_emod_of_nonneg hi, if_neg (by omega)]
      exact ⟨_, rfl, by omega, by omega⟩
    · have : ins = -1 := by omega
      subst this
      exact ⟨19, by decide +kernel, by omega, by omega⟩
  obtain ⟨m, em, hm0, hm1⟩ := hm
  have hw : wrap64 ((wrap64 (2 * (wrap64 (m + (L.length : Int))))) + 2) = 2 * (m + L.length) + 2 := by
    rw [w64 (n := m + (L.length : Int)) (by omega) (by omega), w64 (n := 2 * (m + (L.length : Int))) (by omega) (by omega), w64 (by omega) (by omega)]
  unfold spec_l07Pick.f
  obtain ⟨t, i2, h2, e2, hi2⟩ := once_ok h 20 hi (by omega) (by omega)
  rw [em, Option.bind_some, e2, Option.bind_some, hw]
  cases t with
  | true =>
    obtain ⟨x, i4, h4, e5, hx, hi4⟩ := pickInt_ok h2 [(-1), 2 * (m + (L.length : Int)) + 2] hi2 (by simp) (by simp)
    rw [if_pos rfl, e5, Option.bind_some]
    exact ⟨_, _, _, rfl, hi4⟩
  | false =>
    obtain ⟨x, i4, h4, e5, _, _, hi4⟩ := below_ok h2 (2 * (m + (L.length : Int)) + 2) hi2 (by omega) (by omega)
    rw [if_neg (show ¬ false = true by decide), e5, Option.bind_some]
    exact ⟨_, _, _, rfl, hi4⟩
theorem drawGraphIf_ok (b : List Int) (hb : b.length ≤ 1099511627776) : ∃ ins L x p q, Ev (fun k => spec_DrawGraphIf.f k b) (ins, L, x, p, q) ∧ WfA L ∧ (Lit.int .i64 ins).wf = true ∧ L.length ≤ 49 := by
  obtain ⟨h, e⟩ := new_ev b hb
  obtain ⟨ins, L, w, i1, h1, e1, hw, hwf, h0, h2, hL, hi1⟩ := graph_ok h (st_zero hb)
  obtain ⟨x, i2, h2', e2, hi2⟩ := pick_ok h1 hi1 h0 h2 hL
  obtain ⟨p, i3, h3, e3, hi3⟩ := pick_ok h2' hi2 h0 h2 hL
  obtain ⟨q, i4, h4, e4, hi4⟩ := pick_ok h3 hi3 h0 h2 hL
  refine ⟨ins, L, x, p, q, ?_, hw, hwf, hL⟩
  unfold spec_DrawGraphIf.f
  refine ev_bind e (ev_bind e1 ?_)
  simp only [e2, e3, e4, Option.bind_some]
  exact ev_some _
end Go.Proofs.Yteagogcpbcickaa.Pure
set_option linter.unusedSimpArgs false
set_option linter.unusedVariables false
namespace Go.Proofs.Yteagogcpbcickaa.Pure
open Go.RowKit Go.Proofs.Yteagogcpbcickaa.G Go.Proofs.Yteagogcpbcickaa.Mp Go.Proofs.YteagogcpbcickaaW.PrintWords Go.Proofs.YteagogcpbcickaaW.PrintLast Go.Proofs.YteagogcpbcickaaW.PrintMore
theorem at_bit {b : List Int} (hb : b.length ≤ 1048576) (hw : ∀ x ∈ b, (Lit.int .u8 x).wf = true) (i : Nat) (hi : i ≤ 100000) : ∃ v, laws_at.f b (i : Int) = some v ∧ (Int.tmod v 2 = 0 ∨ Int.tmod v 2 = 1) := by
  unfold laws_at.f
  by_cases h : (i : Int) < (b.length : Int)
  · rw [if_pos h, if_pos (by omega), rd_nat, getD_lt b i 0 (by omega)]
    have hx := hw _ (List.getElem_mem (show i < b.length by omega))
    have hmin : IntKind.u8.min = 0 := rfl
    have hmax : IntKind.u8.max = 255 := rfl
    simp only [Lit.wf, Bool.and_eq_true, decide_eq_true_eq] at hx
    refine ⟨_, rfl, ?_⟩
    rw [w64 (by omega) (by omega), Int.tmod_eq_emod_of_nonneg (by omega)]
    omega
  · rw [if_neg h]
    refine ⟨_, rfl, ?_⟩
    have e : wrap64 ((wrap64 ((i : Int) * 7)) + (b.length : Int)) = (i : Int) * 7 + b.length := by
      rw [w64 (n := (i : Int) * 7) (by omega) (by omega), w64 (by omega) (by omega)]
    rw [e, Int.tmod_eq_emod_of_nonneg (a := (i : Int) * 7 + b.length) (by omega), Int.tmod_eq_emod_of_nonneg (by omega)]
    omega
theorem isBit_all {xs : List Int} (h : bits01 xs) : xs.all isBit = true := List.all_eq_true.2 fun v hv => by rcases h v hv with h | h <;> simp [isBit, h]
theorem gvalue_wv {ins : Int} {L : List S79} (hg : GOk ins L) {xs : List Int} (hb : bits01 xs) (hx : (xs.length : Int) = ins) {w : Int} (hw : isW ins L w = true) : gvalue ins L xs w = wv L xs w := by
  have := isW_lt hw
  unfold gvalue
  rw [if_pos ⟨hg, hx, decide_eq_true (by omega), isBit_all hb⟩]
  rfl
theorem FnWires_pure : ∀ (l0 : List Int), (l0.length ≤ maxLen ∧ ∀ x_ ∈ l0, (Lit.int .u8 x_).wf = true) → ∃ k, laws_FnWires.f k l0 = some true := by
  intro b ⟨hl, hw⟩
  refine ev_rounds ?_
  unfold laws_FnWires.f laws_big.f
  simp only [Option.bind_some]
  by_cases hbig : (b.length : Int) > 1048576
  · simp only [decide_eq_true hbig, if_true]; exact ev_some _
  simp only [decide_eq_false hbig, Bool.false_eq_true, if_false]
  obtain ⟨ins, L, x, p, q, eD, hL, hins, hlen⟩ := drawGraphIf_ok b (by omega)
  have hS := spec_GraphIf_ev hL hins (by omega) x p q
  have hA : impl_GraphAnd.f ins L p q = some (ins, (grownR ins L [p, q] (andR ins L p q)).1, (grownR ins L [p, q] (andR ins L p q)).2) := by unfold impl_GraphAnd.f; rw [if_pos (by omega)]
  have hO : impl_GraphOr.f ins L p q = some (ins, (grownR ins L [p, q] (orR ins L p q)).1, (grownR ins L [p, q] (orR ins L p q)).2) := by unfold impl_GraphOr.f; rw [if_pos (by omega)]
  have hI : impl_GraphIf.f ins L x p q = some (ins, (grownR ins L [x, p, q] (pickR ins L x p q)).1, (grownR ins L [x, p, q] (pickR ins L x p q)).2) := by unfold impl_GraphIf.f; rw [if_pos (by omega)]
  refine ev_bind eD ?_
  simp only [hA, hO, hI, Option.bind_some]
  refine ev_bind hS ?_
  simp only [if_true]
  by_cases hok : GOk ins L ∧ (∀ w ∈ [x, p, q], isW ins L w = true) ∧ 0 ≤ (pickR ins L x p q).2
  case neg =>
    have e : (grownR ins L [x, p, q] (pickR ins L x p q)) = (L, -1) := by
      by_cases h1 : GOk ins L ∧ ∀ w ∈ [x, p, q], isW ins L w = true
      · rw [grownR_ok _ h1.1 h1.2, if_pos (Int.not_le.1 fun h => hok ⟨h1.1, h1.2, h⟩)]
      · exact grownR_no _ h1
    rw [e]
    simp only [if_pos (show (-1 : Int) < 0 by decide), beq_self_eq_true]
    exact ev_some _
  obtain ⟨hg, hW, hr⟩ := hok
  have hx := hW x (by simp)
  have hp := hW p (by simp)
  have hq := hW q (by simp)
  have hW2 : ∀ w ∈ [p, q], isW ins L w = true := fun w hw => by simp at hw; rcases hw with rfl | rfl <;> assumption
  have ha0 := andR_room (ins := ins) hg.1.1 (L := L) (by omega) (isW_lt hp).1 (isW_lt hq).1
  obtain ⟨gA, lA⟩ := andR_good hg hp hq ha0
  have bp := isW_bd hp hg.ins hg.len
  have bq := isW_bd hq hg.ins hg.len
  have ho0 : 0 ≤ (orR ins L p q).2 := by
    have h3 := andR_room (ins := ins) hg.1.1 (L := L) (by omega) (turn_bd bp).1 (turn_bd bq).1
    have b3 := andR_bd hg.ins hg.len (turn_bd bp) (turn_bd bq)
    unfold orR
    dsimp only
    rw [if_neg (by omega)]
    exact (turn_bd ⟨h3, b3.1.2⟩).1
  obtain ⟨gO, lO⟩ := orR_good hg hp hq ho0
  obtain ⟨gI, lI⟩ := pickR_good hg hx hp hq hr
  have hsw := andR_swap hg hp hq ha0
  rw [grownR_ok _ hg hW, grownR_ok _ hg hW2, grownR_ok _ hg hW2, if_neg (show ¬ (pickR ins L x p q).2 < 0 by omega), if_neg (show ¬ (andR ins L p q).2 < 0 by omega), if_neg (show ¬ (orR ins L p q).2 < 0 by omega)]
  simp only [if_neg (show ¬ (pickR ins L x p q).2 < 0 by omega)]
  generalize andR ins L p q = rA at *
  generalize orR ins L p q = rO at *
  generalize pickR ins L x p q = rI at *
  obtain ⟨LA, wA⟩ := rA
  obtain ⟨LO, wO⟩ := rO
  obtain ⟨LI, wI⟩ := rI
  dsimp only at *
  obtain ⟨n, rfl⟩ := Int.eq_ofNat_of_zero_le hg.1.1
  have hn : n ≤ 12 := by have := hg.1.2; omega
  have body : ∀ xs : List Int, bits01 xs → xs.length = n → Ev (fun k => laws_FnWires.l0 k b x p q wA wO wI xs (n : Int) (n : Int) L (n : Int) LA (n : Int) LO (n : Int) LI) true := by
    intro xs hb hxl
    have hxn : (xs.length : Int) = (n : Int) := by omega
    have vx := impl_GraphValue_ev (n : Int) L xs x
    have vp := impl_GraphValue_ev (n : Int) L xs p
    have vq := impl_GraphValue_ev (n : Int) L xs q
    have vA := impl_GraphValue_ev (n : Int) LA xs wA
    have vO := impl_GraphValue_ev (n : Int) LO xs wO
    have vI := impl_GraphValue_ev (n : Int) LI xs wI
    rw [gvalue_wv hg hb hxn hx] at vx
    rw [gvalue_wv hg hb hxn hp] at vp
    rw [gvalue_wv hg hb hxn hq] at vq
    rw [gvalue_wv gA.ok hb hxn (isW_of gA.wire)] at vA
    rw [gvalue_wv gO.ok hb hxn (isW_of gO.wire)] at vO
    rw [gvalue_wv gI.ok hb hxn (isW_of gI.wire)] at vI
    have eA := gA.val xs hb hxn
    have eO := gO.val xs hb hxn
    have eI := gI.val xs hb hxn
    dsimp only at eA eO eI
    rw [eA] at vA
    rw [eO] at vO
    rw [eI] at vI
    obtain ⟨BA, hBA⟩ := gA.ext
    dsimp only at hBA
    have hAA : impl_GraphAnd.f (n : Int) LA q p = some ((n : Int), LA, wA) := by
      unfold impl_GraphAnd.f
      rw [if_pos (by omega), grownR_ok _ gA.ok (fun w hw => by rw [hBA]; simp at hw; rcases hw with rfl | rfl; exact isW_ext hq; exact isW_ext hp), hsw]
      rw [if_neg (by omega)]
    have kA : impl_GraphOk.f (n : Int) LA = some true := by unfold impl_GraphOk.f; rw [decide_eq_true gA.ok]
    have kO : impl_GraphOk.f (n : Int) LO = some true := by unfold impl_GraphOk.f; rw [decide_eq_true gO.ok]
    have kI : impl_GraphOk.f (n : Int) LI = some true := by unfold impl_GraphOk.f; rw [decide_eq_true gI.ok]
    have fin : ∀ c : Int, c = (if wv L xs x = 1 then wv L xs p else wv L xs q) → Ev (fun k => laws_FnWires.j1 k p q wA wO wI xs (wv L xs p) (wv L xs q) c (n : Int) LA (n : Int) LO (n : Int) LI) true := by
      intro c hc
      refine ev_succ ?_
      simp only [laws_FnWires.j1, hAA, kA, kO, kI, Option.bind_some, if_true]
      refine ev_bind vA ?_
      simp only [if_true]
      refine ev_bind vO ?_
      simp only [if_true]
      refine ev_bind vI ?_
      simp only [if_pos hc.symm, beq_self_eq_true]
      exact ev_some _
    refine ev_succ ?_
    simp only [laws_FnWires.l0, if_neg (show ¬ (n : Int) < (n : Int) by omega)]
    refine ev_bind vx (ev_bind vp (ev_bind vq ?_))
    by_cases h1 : wv L xs x = 1
    · simp only [if_pos h1]
      exact fin _ (by rw [if_pos h1])
    · simp only [if_neg h1]
      exact fin _ (by rw [if_neg h1])
  have loop : ∀ d (i : Nat) (xs : List Int), i + d = n → bits01 xs → xs.length = i → Ev (fun k => laws_FnWires.l0 k b x p q wA wO wI xs (i : Int) (n : Int) L (n : Int) LA (n : Int) LO (n : Int) LI) true := by
    intro d
    induction d with
    | zero =>
      intro i xs hi hb hxl
      obtain rfl : i = n := by omega
      exact body xs hb hxl
    | succ d ih =>
      intro i xs hi hb hxl
      obtain ⟨v, ev, hv⟩ := at_bit (b := b) (by omega) hw (i + 3) (by omega)
      refine ev_succ ?_
      simp only [laws_FnWires.l0, if_pos (show (i : Int) < (n : Int) by omega), w64s i (show i < 4611686018427387904 by omega)]
      rw [show wrap64 ((i : Int) + 3) = ((i + 3 : Nat) : Int) by rw [w64 (by omega) (by omega)]; omega]
      simp only [ev, Option.bind_some, if_pos (show xs.length < 17592186044416 by omega)]
      refine ih (i + 1) _ (by omega) ?_ (by simp; omega)
      intro y hy
      rcases List.mem_append.1 hy with hy | hy
      · exact hb y hy
      · rw [List.mem_singleton.1 hy]; exact hv
  have := loop n 0 [] (by omega) (fun v hv => absurd hv (by simp)) rfl
  exact this
end Go.Proofs.Yteagogcpbcickaa.Pure
namespace Go.Proofs.Yteagogcpbcickaa.Open
open Go.Deep Go.ChangeShapes Go.WideShapes Go.RowKit Go.Proofs.YteagogcpbcickaaW.PrintWords
def Opens {α : Type} (P : Program) (t : TypeId) (d : Kd α) (ok : α → Prop) : Prop :=
  ∀ (H : Type) (enc : TypeId × Value → H) (w : World) (base : Nat) (spare : Nat → Bool) (held : Bool) (fuel : Nat) (cs : List Value) (x : DataW H × List MemPlace),
    DataW.trod enc P w base spare held fuel t cs = some x → ∃ a, d.K w a cs ∧ ok a
theorem opens_int {P : Program} {t : TypeId} {k : IntKind} (hu : P.underlying t = some (.int k)) : Opens P t (Kd.int k) (fun a => (Lit.int k a).wf = true) := by
  intro H enc w base spare held fuel cs x h
  obtain ⟨n, rfl, _, hw⟩ := DataW.trod_int hu h
  exact ⟨n, rfl, hw⟩
theorem list_of {α : Type} {p : Nat → α → Prop} : ∀ n, (∀ i, i < n → ∃ a, p i a) → ∃ l : List α, l.length = n ∧ ∀ i a, l[i]? = some a → p i a
  | 0, _ => ⟨[], rfl, fun i a h => by simp at h⟩
  | n + 1, h => by
    obtain ⟨l, hl, hp⟩ := list_of n (fun i hi => h i (by omega))
    obtain ⟨a, ha⟩ := h n (by omega)
    refine ⟨l ++ [a], by simp [hl], fun i b hb => ?_⟩
    rw [List.getElem?_append] at hb
    split at hb
    · exact hp i b hb
    · rename_i hi
      have e : i = n := by
        rcases Nat.lt_or_ge (i - l.length) 1 with h1 | h1
        · omega
        · rw [List.getElem?_eq_none (by simpa using h1)] at hb
          cases hb
      subst e
      rw [hl, Nat.sub_self] at hb
      cases hb
      exact ha
theorem opens_slice {α : Type} {P : Program} {t e : TypeId} {d : Kd α} {ok : α → Prop} (hu : P.underlying t = some (.slice e)) (hc : P.cellsOf e = d.sz) (h : Opens P e d ok) :
    Opens P t (Kd.slice e d) (fun l => l.length ≤ maxLen ∧ ∀ x ∈ l, ok x) := by
  intro H enc w base spare held fuel cs x hx
  rcases open_slice hu hx with ⟨rfl, rfl⟩ | ⟨a, len, cap, m, n, D, Pl, rfl, hb, hl, hm, hmm, rfl, hel⟩
  · exact ⟨[], ⟨none, 0, rfl, Nat.le_refl _, rfl, by simp, fun h => absurd h (by simp)⟩, by simp [maxLen], by simp⟩
  · have hle : len ≤ m := by rw [hmm]; split <;> omega
    have hone : ∀ i, i < len → ∃ y : α, (∃ cs', w.cells? base (a.add (i * P.cellsOf e)) (P.cellsOf e) = some cs' ∧ d.K w y cs') ∧ ok y := by
      intro i hi
      obtain ⟨cs', h1, h2⟩ := hel i (by omega)
      obtain ⟨y, hk, ho⟩ := h H enc w base spare held n cs' _ h2
      exact ⟨y, ⟨cs', h1, hk⟩, ho⟩
    obtain ⟨l, hll, hp⟩ := list_of len hone
    subst hll
    refine ⟨l, ⟨some a, cap, rfl, hl, rfl, by simp only [maxLen] at hm; omega, fun _ => ⟨a, rfl, fun j p hj => ?_⟩⟩, by omega, ?_⟩
    · obtain ⟨⟨cs', h1, hk⟩, _⟩ := hp j p hj
      refine ⟨cs', d.K_len hk, hk, fun i u hu => ?_⟩
      have hlt : i < cs'.length := by
        rcases Nat.lt_or_ge i cs'.length with h' | h'
        · exact h'
        · rw [List.getElem?_eq_none h'] at hu; cases hu
      have hlen := d.K_len hk
      obtain ⟨_, hlen2, hcell⟩ := World.cells?_some h1
      rw [hc] at hcell
      have := hcell i (by omega)
      rw [hu] at this
      rw [← Addr.add_add]
      exact this.symm ▸ rfl
    · intro x hx
      obtain ⟨i, hi, rfl⟩ := List.getElem_of_mem hx
      exact (hp i _ (List.getElem?_eq_getElem hi)).2
end Go.Proofs.Yteagogcpbcickaa.Open
/- The statement FnWiresSaid of the law FnWires: for every input the call returns true and its arguments read as before. Conditions: none. (Written by a program of this session: wip/gen/row.py.) -/
namespace Go.Proofs.Yteagogcpbcickaa.fnWires
open Go.ChangeShapes Go.WideShapes Go.ChangeAt Go.RowKit Go.Proofs.Yteagogcpbcickaa.Open Go.Proofs.Yteagogcpbcickaa.G Go.Proofs.YteagogcpbcickaaW.PrintWords
open Go.ChangeMaps (open_string shut_string)
set_option linter.unusedVariables false
theorem own : ownKnob Try.prog.godebug = none := by kernel_rfl
theorem laidOut : laidOutB Try.prog = true := by kernel_rfl
set_option maxRecDepth 100000 in
theorem lifted (os : Os) (started : os.Started) (H : Type) (enc : TypeId × Value → H) :
    ReturnsInHanded {} Try.checked os 12 .any (Rows.fnWiresSpec.pre6 enc Try.prog Try.f12 Rows.fnWiresRow.domain false) (Rows.fnWiresSpec.post enc Try.prog Try.f12 false true false false) := by
  refine returnsInHanded_of_change (C := Try.checked) own started (by kernel_rfl) Try.func12
    (ChangeSpec.witness6 (enc := enc) (C := Try.checked) false ⟨#[], #[.slice none 0 0], []⟩ 8 (by kernel_rfl) (by kernel_rfl) (by kernel_rfl) (by kernel_rfl)) ?_
  intro W base args ds gs before hval0 hW hcnd _
  have hval : ∀ (j : Nat) t v, Try.f12.params[j]? = some t → args[j]? = some v → Value.okWide Try.prog W .any base t v := hval0
  have hW' := hW
  obtain ⟨p, q, hA0, hV, rfl, hfz, hnd⟩ := hW
  have hA : DataW.TrodAll enc Try.prog W 0 (fun _ => true) true Try.f12.params.toList args.toList ds p := hA0
  rw [Try.params12] at hA hval
  obtain ⟨v0, vs0, d0, ds0, p0, q0, hargs, rfl, rfl, h0, r0⟩ := trodAll_cons hA
  obtain ⟨rfl, rfl, rfl⟩ := trodAll_nil r0
  obtain rfl : args = #[v0] := by cases args; simp_all
  obtain ⟨rfl, rfl⟩ := trodVars_none hV
  have k0 := h0
  have lt0 : ∀ x ∈ p0, x.block < W.heap.size := by obtain ⟨m, hm⟩ := k0; exact DataW.trod_lt m _ _ _ hm
  obtain ⟨fu0, hf0⟩ := h0
  obtain ⟨a0, len0, cap0, rfl⟩ := okWide_slice Try.underlying55 (hval 0 55 v0 rfl rfl)
  obtain ⟨l0, hk0, ok0⟩ := (opens_slice (d := (Kd.int .u8)) Try.underlying55 (by kernel_rfl) (opens_int Try.underlying5)) _ enc W 0 _ true fu0 _ _ hf0
  obtain ⟨A0, c0, hcs0, hc0, hr0⟩ := hk0
  simp [Value.cells] at hcs0
  obtain ⟨rfl, rfl, rfl⟩ := hcs0
  clear hA0 hval0
  obtain ⟨k, hk⟩ := Pure.FnWires_pure l0 ok0
  refine (laws_FnWires.calls k _ _ l0 true W hr0 hc0 rfl hk).mono fun e W' ⟨he, bel0⟩ => ?_
  have bel : Below W.heap.size W W' := bel0
  subst he
  exact ⟨_, rfl, _, _, _, [], _, [], hW', trodAll_mk1 (shut_bool Try.underlying4 _), (trodAll_cons_mk (Below.trod laidOut (by kernel_rfl) (of_decide_eq_true (by kernel_rfl)) k0 bel lt0) trodAll_mk0), rfl, bel.frame _, fun h => by cases h⟩
theorem over : Rows.fnWiresRow.holds Try.pinned (OpenSpec.ofChange Rows.fnWiresSpec) :=
  OpenClaim.holds_of_wide 12 Try.f12 rfl rfl rfl rfl rfl rfl rfl ⟨rfl, rfl, rfl, rfl, rfl⟩ rfl rfl rfl rfl rfl (by kernel_rfl) Try.func12 (by kernel_rfl)
    (of_decide_eq_true (by kernel_rfl)) (by unfold Func.isWrapper; first | (rw [if_pos (by decide +kernel)]; kernel_rfl) | (rw [if_neg (by decide +kernel)]; exact ⟨rfl, rfl⟩))
    (fun os started H enc _ => lifted os started H enc)
theorem proved : Rows.FnWiresSaid := over
end Go.Proofs.Yteagogcpbcickaa.fnWires
namespace Go.Proofs.Yteagogcpbcickaa
/-- The given statement. -/
theorem fnWires_holds : Rows.FnWiresSaid := fnWires.proved
#print axioms fnWires_holds
end Go.Proofs.Yteagogcpbcickaa
