-- texts of this session, merged by a program of it (wip/gen/pack.py)
import Derived.Test.YteagogcpbcickaaKFnExactGraphIf9
import Derived.Test.YteagogcpbcickaaKFnExactGraphIf3
import Derived.Test.YteagogcpbcickaaKFnExactGraphIf2
import Derived.Test.YteagogcpbcickaaKFnExactGraphIf5
import Derived.Test.YteagogcpbcickaaKFnExactGraphIf7
import Derived.Test.YteagogcpbcickaaKFnExactGraphIf6
import Derived.Test.YteagogcpbcickaaKFnExactGraphIf4
import Derived.Test.YteagogcpbcickaaKFnExactGraphIf8
import Derived.ProofKit
import Derived.WalkKit
import Derived.Deep.Slices
import Derived.OpenShut
import Derived.ChangeVars
import Derived.ChangeOld
import Derived.Below
import Derived.Test.YteagogcpbcickaaKFnExactGraphIf1
import Derived.Test.YteagogcpbcickaaRows
import Derived.ShutString
/- The builder's operations and the reference's. Conditions: each lemma's own hypotheses. -/
set_option linter.unusedSimpArgs false
set_option linter.unusedVariables false
namespace Go.Proofs.Yteagogcpbcickaa.Pure
open Go.RowKit Go.Proofs.Yteagogcpbcickaa.G Go.Proofs.Yteagogcpbcickaa.Mp Go.Proofs.YteagogcpbcickaaW.PrintWords Go.Proofs.YteagogcpbcickaaW.PrintLast Go.Proofs.YteagogcpbcickaaW.PrintMore

theorem turn_turn {x : Int} (h : 0 ≤ x ∧ x ≤ 1048575) : Go.bits .xor .i64 (Go.bits .xor .i64 x 1) 1 = x := by
  obtain ⟨n, rfl⟩ := Int.eq_ofNat_of_zero_le h.1
  have h1 := xor_nat n 1 (by omega) (by decide)
  rw [show ((1 : Nat) : Int) = 1 from rfl] at h1
  have h2 := Nat.xor_lt_two_pow (x := n) (y := 1) (n := 20) (by omega) (by decide)
  have h3 := xor_nat (n ^^^ 1) 1 (by omega) (by decide)
  rw [show ((1 : Nat) : Int) = 1 from rfl] at h3
  rw [h1, h3, Nat.xor_assoc, Nat.xor_self, Nat.xor_zero]
/-- No node stands there twice. -/
def Dist (L : List S79) : Prop := ∀ i j : Nat, i < j → j < L.length → rd_T79 L (i : Int) ≠ rd_T79 L (j : Int)
theorem GOk.dist {ins : Int} {L : List S79} (h : GOk ins L) : Dist L := by
  intro i j hij hj he
  obtain ⟨_, _, _, _, h5⟩ := h.2.2 j hj
  exact h5 ((mem_take_rd L j (by omega) _).2 ⟨i, hij, he⟩)
theorem mhas_iff {κ : Type} [DecidableEq κ] (x : κ) : ∀ l : List (κ × Int), mhas l x = true ↔ ∃ p ∈ l, p.1 = x := by
  intro l
  induction l with
  | nil => simp [mhas]
  | cons a r ih =>
    unfold mhas
    by_cases h : a.1 = x
    · rw [if_pos h]; simp [h]
    · rw [if_neg h, ih]; simp [h]
theorem mget_of {κ : Type} [DecidableEq κ] (x : κ) (v : Int) : ∀ l : List (κ × Int), (∀ q ∈ l, q.1 = x → q.2 = v) → (∃ p ∈ l, p.1 = x) → mget l x = v := by
  intro l
  induction l with
  | nil => intro _ h; obtain ⟨p, hp, _⟩ := h; cases hp
  | cons a r ih =>
    intro h1 h2
    unfold mget
    by_cases h : a.1 = x
    · rw [if_pos h]; exact h1 a (by simp) h
    · rw [if_neg h]
      refine ih (fun q hq => h1 q (by simp [hq])) ?_
      obtain ⟨p, hp, he⟩ := h2
      rcases List.mem_cons.1 hp with rfl | hp
      · exact absurd he h
      · exact ⟨p, hp, he⟩
theorem mem_at (ins : Int) (L : List S79) (p : S79 × Int) : p ∈ atMap ins L ↔ ∃ i : Nat, i < L.length ∧ p = (rd_T79 L (i : Int), 2 * (ins + 1 + (i : Int))) := by
  simp only [atMap, List.mem_reverse, List.mem_map, List.mem_range]
  constructor
  · rintro ⟨i, hi, rfl⟩; exact ⟨i, hi, rfl⟩
  · rintro ⟨i, hi, rfl⟩; exact ⟨i, hi, rfl⟩
theorem at_found {ins : Int} {L : List S79} (hD : Dist L) {i : Nat} (hi : i < L.length) {K : S79} (h : rd_T79 L (i : Int) = K) : mhas (atMap ins L) K = true ∧ mget (atMap ins L) K = 2 * (ins + 1 + (i : Int)) := by
  have hp : (K, 2 * (ins + 1 + (i : Int))) ∈ atMap ins L := (mem_at ins L _).2 ⟨i, hi, by rw [h]⟩
  refine ⟨(mhas_iff K _).2 ⟨_, hp, rfl⟩, mget_of K _ _ (fun q hq he => ?_) ⟨_, hp, rfl⟩⟩
  obtain ⟨j, hj, rfl⟩ := (mem_at ins L q).1 hq
  have : i = j := by
    rcases Nat.lt_trichotomy i j with h1 | h1 | h1
    · exact absurd (h.trans he.symm) (hD i j h1 hj)
    · exact h1
    · exact absurd (he.trans h.symm) (hD j i h1 hi)
  rw [this]
theorem at_none {ins : Int} {L : List S79} {K : S79} (h : ∀ i : Nat, i < L.length → rd_T79 L (i : Int) ≠ K) : mhas (atMap ins L) K = false := by
  rw [Bool.eq_false_iff]
  intro hm
  obtain ⟨p, hp, he⟩ := (mhas_iff K _).1 hm
  obtain ⟨i, hi, rfl⟩ := (mem_at ins L p).1 hp
  exact h i hi he
theorem Dist.app {L : List S79} {K : S79} (hD : Dist L) (h : ∀ i : Nat, i < L.length → rd_T79 L (i : Int) ≠ K) : Dist (L ++ [K]) := by
  intro i j hij hj
  rw [List.length_append, List.length_singleton] at hj
  rw [rd_app L K i (by omega)]
  by_cases hjl : j < L.length
  · rw [rd_app L K j hjl]; exact hD i j hij hjl
  · have : j = L.length := by omega
    subst this
    rw [rd_last]
    exact h i hij
theorem andR_dist {ins : Int} {L : List S79} (hD : Dist L) (x y : Int) : Dist (andR ins L x y).1 := by
  unfold andR
  split; exact hD
  split; exact hD
  split; exact hD
  split; exact hD
  split; exact hD
  split; exact hD
  split; exact hD
  rename_i hm
  split; exact hD
  refine hD.app fun i hi he => hm (at_found hD hi he).1
theorem orR_dist {ins : Int} {L : List S79} (hD : Dist L) (x y : Int) : Dist (orR ins L x y).1 := andR_dist hD _ _
/-- The search and what follows. -/
theorem spec_find_ev {ins : Int} {L : List S79} (hin : 0 ≤ ins ∧ ins ≤ 1000) (hL : L.length ≤ 3000) (hD : Dist L) (a b : Int) :
    Ev (fun k => spec_l07And.l0 k a b 0 ins L) (if mhas (atMap ins L) ⟨a, b⟩ = true then (ins, L, mget (atMap ins L) ⟨a, b⟩) else if 3000 ≤ L.length then (ins, L, -1) else (ins, L ++ [⟨a, b⟩], 2 * (ins + 1 + L.length))) := by
  have hs : ∀ d i, i + d = L.length → (∀ j : Nat, j < i → rd_T79 L (j : Int) ≠ ⟨a, b⟩) → Ev (fun k => spec_l07And.l0 k a b (i : Int) ins L) (if mhas (atMap ins L) ⟨a, b⟩ = true then (ins, L, mget (atMap ins L) ⟨a, b⟩) else if 3000 ≤ L.length then (ins, L, -1) else (ins, L ++ [⟨a, b⟩], 2 * (ins + 1 + L.length))) := by
    intro d
    induction d with
    | zero =>
      intro i hi hn
      rw [at_none (fun j hj => hn j (by omega)), if_neg (by decide)]
      by_cases h3 : 3000 ≤ L.length
      · rw [if_pos h3]
        refine ev_step (f := fun _ => some (ins, L, -1)) (fun k => ?_) (ev_some _)
        simp only [spec_l07And.l0]
        rw [if_neg (by omega), if_pos (by omega)]
      · rw [if_neg h3]
        refine ev_step (f := fun _ => some (ins, L ++ [⟨a, b⟩], 2 * (ins + 1 + L.length))) (fun k => ?_) (ev_some _)
        simp only [spec_l07And.l0]
        rw [if_neg (by omega), if_neg (by omega), if_pos (by omega), Option.bind_some, List.length_append, List.length_singleton, w64 (n := ins + ((L.length + 1 : Nat) : Int)) (by omega) (by omega), w64 (by omega) (by omega), show 2 * (ins + ((L.length + 1 : Nat) : Int)) = 2 * (ins + 1 + L.length) from by omega]
    | succ d ih =>
      intro i hi hn
      by_cases he : rd_T79 L (i : Int) = ⟨a, b⟩
      · obtain ⟨h1, h2⟩ := at_found (ins := ins) hD (by omega : i < L.length) he
        rw [h1, if_pos rfl, h2]
        refine ev_step (f := fun _ => some (ins, L, 2 * (ins + 1 + (i : Int)))) (fun k => ?_) (ev_some _)
        simp only [spec_l07And.l0]
        rw [if_pos (by omega), if_pos (by omega), if_pos (by rw [he]), if_pos (by rw [he]), w64 (n := ins + 1) (by omega) (by omega), w64 (n := ins + 1 + (i : Int)) (by omega) (by omega), w64 (by omega) (by omega)]
      · refine ev_step (f := fun k => spec_l07And.l0 k a b ((i + 1 : Nat) : Int) ins L) (fun k => ?_) (ih (i + 1) (by omega) (fun j hj => ?_))
        · simp only [spec_l07And.l0]
          rw [if_pos (by omega), if_pos (by omega), w64s i (by omega)]
          by_cases h0 : (rd_T79 L (i : Int)).f0 = a
          · rw [if_pos h0, if_neg (fun h1 => he (and_ext h0 h1))]
          · rw [if_neg h0]
        · rcases Nat.lt_succ_iff_lt_or_eq.1 hj with h | rfl
          · exact hn j h
          · exact he
  have := hs L.length 0 (by omega) (fun j hj => by omega)
  exact this
/-- Sorted wires. -/
theorem spec_and_le {ins : Int} {L : List S79} (hin : 0 ≤ ins ∧ ins ≤ 1000) (hL : L.length ≤ 3000) (hD : Dist L) {a b : Int} (ha : 0 ≤ a ∧ a ≤ 1048575) (hb : 0 ≤ b ∧ b ≤ 1048575) (hab : a ≤ b) :
    Ev (fun k => spec_l07And.f k ins L a b) (if a = 0 then (ins, L, 0) else if a = Go.bits .xor .i64 b 1 then (ins, L, 0) else if a = 1 then (ins, L, b) else if a = b then (ins, L, b) else
      if mhas (atMap ins L) ⟨a, b⟩ = true then (ins, L, mget (atMap ins L) ⟨a, b⟩) else if 3000 ≤ L.length then (ins, L, -1) else (ins, L ++ [⟨a, b⟩], 2 * (ins + 1 + L.length))) := by
  have hj : ∀ t : Bool, t = true → Ev (fun k => spec_l07And.j0 k a b t ins L) (ins, L, 0) := by
    rintro _ rfl
    refine ev_step (f := fun _ => some (ins, L, 0)) (fun k => ?_) (ev_some _)
    simp only [spec_l07And.j0]
    exact if_pos trivial
  by_cases h0 : a = 0
  · rw [if_pos h0]
    refine ev_step (fun k => ?_) (hj true rfl)
    simp only [spec_l07And.f]
    rw [if_neg (by omega), if_pos h0]
  rw [if_neg h0]
  by_cases h1 : a = Go.bits .xor .i64 b 1
  · rw [if_pos h1]
    refine ev_step (fun k => ?_) (hj (a == Go.bits .xor .i64 b 1) (beq_iff_eq.2 h1))
    simp only [spec_l07And.f, spec_l07Turn.f, Option.bind_some]
    rw [if_neg (by omega), if_neg h0]
  rw [if_neg h1]
  refine ev_step (f := fun k => spec_l07And.j0 k a b false ins L) (fun k => ?_) ?_
  · simp only [spec_l07And.f, spec_l07Turn.f, Option.bind_some]
    rw [if_neg (by omega), if_neg h0, beq_eq_false_iff_ne.2 h1]
  by_cases h2 : a = 1
  · rw [if_pos h2]
    refine ev_step (f := fun _ => some (ins, L, b)) (fun k => ?_) (ev_some _)
    simp only [spec_l07And.j0]
    rw [if_neg (by decide), if_pos h2]
  rw [if_neg h2]
  by_cases h3 : a = b
  · rw [if_pos h3]
    refine ev_step (f := fun _ => some (ins, L, b)) (fun k => ?_) (ev_some _)
    simp only [spec_l07And.j0]
    rw [if_neg (by decide), if_neg h2, if_pos h3]
  rw [if_neg h3]
  refine ev_step (fun k => ?_) (spec_find_ev hin hL hD a b)
  simp only [spec_l07And.j0]
  rw [if_neg (by decide), if_neg h2, if_neg h3]
theorem spec_and_ev {ins : Int} {L : List S79} (hin : 0 ≤ ins ∧ ins ≤ 1000) (hL : L.length ≤ 3000) (hD : Dist L) {x y : Int} (hx : 0 ≤ x ∧ x ≤ 1048575) (hy : 0 ≤ y ∧ y ≤ 1048575) :
    Ev (fun k => spec_l07And.f k ins L x y) (ins, (andR ins L x y).1, (andR ins L x y).2) := by
  have tx := turn_turn hx
  have ty := turn_turn hy
  by_cases hxy : x ≤ y
  · have e := spec_and_le hin hL hD hx hy hxy
    have : (ins, (andR ins L x y).1, (andR ins L x y).2) = (if x = 0 then (ins, L, 0) else if x = Go.bits .xor .i64 y 1 then (ins, L, 0) else if x = 1 then (ins, L, y) else if x = y then (ins, L, y) else
      if mhas (atMap ins L) ⟨x, y⟩ = true then (ins, L, mget (atMap ins L) ⟨x, y⟩) else if 3000 ≤ L.length then (ins, L, -1) else (ins, L ++ [⟨x, y⟩], 2 * (ins + 1 + L.length))) := by
      unfold andR
      rw [show min x y = x by omega, show max x y = y by omega]
      by_cases h0 : x = 0
      · simp only [if_pos h0]
      simp only [if_neg h0]
      rw [if_neg (show ¬ y = 0 by omega)]
      by_cases h1 : x = Go.bits .xor .i64 y 1
      · simp only [if_pos h1]
      simp only [if_neg h1]
      by_cases h2 : x = 1
      · simp only [if_pos h2]
      simp only [if_neg h2]
      rw [if_neg (show ¬ y = 1 by omega)]
      by_cases h3 : x = y
      · simp only [if_pos h3]; rw [h3]
      simp only [if_neg h3]
      split
      · rfl
      · split <;> rfl
    rw [this]
    exact e
  · have e := spec_and_le hin hL hD hy hx (by omega)
    have : (ins, (andR ins L x y).1, (andR ins L x y).2) = (if y = 0 then (ins, L, 0) else if y = Go.bits .xor .i64 x 1 then (ins, L, 0) else if y = 1 then (ins, L, x) else if y = x then (ins, L, x) else
      if mhas (atMap ins L) ⟨y, x⟩ = true then (ins, L, mget (atMap ins L) ⟨y, x⟩) else if 3000 ≤ L.length then (ins, L, -1) else (ins, L ++ [⟨y, x⟩], 2 * (ins + 1 + L.length))) := by
      unfold andR
      rw [show min x y = y by omega, show max x y = x by omega]
      rw [if_neg (show ¬ x = 0 by omega)]
      by_cases h0 : y = 0
      · simp only [if_pos h0]
      simp only [if_neg h0]
      by_cases h1 : y = Go.bits .xor .i64 x 1
      · rw [if_pos (show x = Go.bits .xor .i64 y 1 by rw [h1, tx]), if_pos h1]
      rw [if_neg (fun h => h1 (show y = Go.bits .xor .i64 x 1 by rw [h, ty])), if_neg h1]
      rw [if_neg (show ¬ x = 1 by omega), if_neg (show ¬ x = y by omega), if_neg (show ¬ y = x by omega)]
      by_cases h2 : y = 1
      · rw [if_pos h2, if_pos h2]
      rw [if_neg h2, if_neg h2]
      split
      · rfl
      · split <;> rfl
    rw [this]
    refine ev_step (f := fun k => spec_l07And.f k ins L y x) (fun k => ?_) e
    simp only [spec_l07And.f]
    rw [if_pos (by omega)]
    cases spec_l07And.f k ins L y x <;> rfl
end Go.Proofs.Yteagogcpbcickaa.Pure
-- written by a program of this session (wip/gen/gen.py); Lean checks it
namespace Go.Proofs.Yteagogcpbcickaa.G
open Go.Proofs.Yteagogcpbcickaa.Sh Go.RowKit Go.Proofs.YteagogcpbcickaaW.PrintWords Go.Proofs.YteagogcpbcickaaW.PrintLast Go.Proofs.YteagogcpbcickaaW.PrintMore
attribute [local go_sem] max2_int min2_int max_two min_two max_three min_three max_four min_four   -- for this text's walks alone
set_option linter.unusedVariables false
set_option linter.unusedSimpArgs false

/-! ### spec_GraphAnd: function 29 -/
def spec_GraphAnd.j0 : Nat → Int → Int → Bool → Int → List (S79) → Option (Int × (List (S79)) × Int)
  | 0, _, _, _, _, _ => none
  | k + 1, x1, x2, x24, x102000, x102001 => if x24 = true then ((spec_l07Copy.f x102000 x102001).bind fun bt106 => (some (bt106.1, bt106.2, (-1)))) else ((spec_l07Copy.f x102000 x102001).bind fun bt110 => ((spec_l07And.f k bt110.1 bt110.2 x1 x2).bind fun bt114 => (if bt114.2.2 < 0 then ((spec_l07Copy.f x102000 x102001).bind fun bt120 => (some (bt120.1, bt120.2, (-1)))) else (some (bt114.1, bt114.2.1, bt114.2.2)))))
def spec_GraphAnd.f (k : Nat) (a0_0 : Int) (l0_1 : List (S79)) (a1 : Int) (a2 : Int) : Option (Int × (List (S79)) × Int) := (spec_GraphOk.f k a0_0 l0_1).bind fun t103 => (if t103 = true then ((spec_l07Wire.f a0_0 l0_1 a1).bind fun t104 => (if t104 = true then ((spec_l07Wire.f a0_0 l0_1 a2).bind fun t105 => (spec_GraphAnd.j0 k a1 a2 (!t105) a0_0 l0_1)) else (spec_GraphAnd.j0 k a1 a2 true a0_0 l0_1))) else (spec_GraphAnd.j0 k a1 a2 true a0_0 l0_1))
set_option maxHeartbeats 80000000 in
set_option maxRecDepth 100000 in
theorem spec_GraphAnd.calls (k : Nat) (a0_0 : Int) (A0_1 : Option Addr) (c0_1 : Nat) (l0_1 : List (S79)) (a1 : Int) (a2 : Int) (r1 : Int) (r2 : List (S79)) (r3 : Int) (w : World) (hr0_1 : Kd.C k79 w A0_1 l0_1.length l0_1) (hc0_1 : l0_1.length ≤ c0_1) (h : spec_GraphAnd.f k a0_0 l0_1 a1 a2 = some (r1, r2, r3)) :
  Calls Try.prog 29 #[.agg #[.int .i64 a0_0, .slice A0_1 l0_1.length c0_1], .int .i64 a1, .int .i64 a2] w fun e w' => ∃ v1_ : Value, e = .returned (.tuple #[.agg #[.int .i64 r1, v1_], .int .i64 r3]) ∧ Kd.R k79 79 w' w.heap.size (fun _ => True) v1_ r2 ∧ Below w.heap.size w w' := by
 have hu29 := Try.underlying29; have HR0_1 := Aside0.mk hr0_1; have HC0_1 := Aside0.mk hc0_1; clear hr0_1 hc0_1; have HB := Aside0.mk (Below.refl w.heap.size w)
 have H : ((spec_GraphOk.f k a0_0 l0_1).bind fun t103 => (if t103 = true then ((spec_l07Wire.f a0_0 l0_1 a1).bind fun t104 => (if t104 = true then ((spec_l07Wire.f a0_0 l0_1 a2).bind fun t105 => (spec_GraphAnd.j0 k a1 a2 (!t105) a0_0 l0_1)) else (spec_GraphAnd.j0 k a1 a2 true a0_0 l0_1))) else (spec_GraphAnd.j0 k a1 a2 true a0_0 l0_1))) = some (r1, r2, r3) := h
 clear h; have HC4 := Aside0.mk H; clear H
 go_enter Try.func29, Try.ntmps29
 go_upto_region 1 with (first | ((with_reducible refine gate_dst (N := 3) rfl ?_); refine box_event ?hg (N := 3) ?hd (cs := #[.int .i64 a0_0, .slice A0_1 l0_1.length c0_1]) (t := 29) ?hr ?_; (case hd => rfl); (case hg => rfl); (case hr => first | (go_simp; done) | (go_simp; rfl)); intro gb101 hg w5 hbox hb; have n0_ := bs0 HB hb; have n1_ := Aside0.mk (hbox); have n2_ := bz0 hg HB; have n3_ := bz0 hg HB; clear HB; have HB := n0_; have BK101 := n1_; have GW101 := n2_; have GE101 := n3_; clear n0_ n1_ n2_ n3_; clear hb hbox hg) | ((with_reducible refine gate_dst (N := 6) rfl ?_); refine box_event ?hg (N := 6) ?hd (cs := #[.int .i64 0, .slice none 0 0]) (t := 29) ?hr ?_; (case hd => rfl); (case hg => rfl); (case hr => first | (go_simp; done) | (go_simp; rfl)); intro gb102 hg w6 hbox hb; have n0_ := bb BK101 hb; have n1_ := bs1 HB hb GE101; have n2_ := Aside0.mk (hbox); have n3_ := bz1 hg HB GE101; have n4_ := bz1 hg HB GE101; have n5_ := nl hg BK101; have n6_ := ng hg BK101; clear BK101; clear HB; have BK101 := n0_; have HB := n1_; have BK102 := n2_; have GW102 := n3_; have GE102 := n4_; have NB101_102 := n5_; have NB102_101 := n6_; clear n0_ n1_ n2_ n3_ n4_ n5_ n6_; clear hb hbox hg))
 (try simp only [Act.put, List.setIfInBounds_toArray, List.set_cons_zero, List.set_cons_succ])
 go_cut [24] (fun v24 wc => ∃ (kq : Nat) (x24_3 : Bool), v24 = .bool x24_3 ∧ Aside0 (spec_GraphAnd.j0 kq a1 a2 x24_3 a0_0 l0_1 = some (r1, r2, r3)) ∧ Aside0 (kq ≤ k) ∧ Aside0 (wc.heap[gb101]? = some (.cells #[.int .i64 a0_0, (.slice A0_1 l0_1.length c0_1)] 29 (0, 0))) ∧ Aside0 (wc.heap[gb102]? = some (.cells #[.int .i64 0, (.slice none 0 0)] 29 (0, 0))) ∧ Aside0 (Below w.heap.size w wc))
 case first =>
  have H := HC4.out; clear HC4
  replace H := Option.bind_eq_some_iff.mp H
  obtain ⟨t103, A70, H⟩ := H
  replace H : (if t103 = true then ((spec_l07Wire.f a0_0 l0_1 a1).bind fun t104 => (if t104 = true then ((spec_l07Wire.f a0_0 l0_1 a2).bind fun t105 => (spec_GraphAnd.j0 k a1 a2 (!t105) a0_0 l0_1)) else (spec_GraphAnd.j0 k a1 a2 true a0_0 l0_1))) else (spec_GraphAnd.j0 k a1 a2 true a0_0 l0_1)) = some (r1, r2, r3) := H
  have A7 := Aside0.mk A70; clear A70
  by_cases c8 : t103 = true
  ·subst c8
   have H1 : ((spec_l07Wire.f a0_0 l0_1 a1).bind fun t104 => (if t104 = true then ((spec_l07Wire.f a0_0 l0_1 a2).bind fun t105 => (spec_GraphAnd.j0 k a1 a2 (!t105) a0_0 l0_1)) else (spec_GraphAnd.j0 k a1 a2 true a0_0 l0_1))) = some (r1, r2, r3) := by rw [if_pos rfl] at H; exact H
   clear H; have H := H1; clear H1
   replace H := Option.bind_eq_some_iff.mp H
   obtain ⟨t104, A90, H⟩ := H
   replace H : (if t104 = true then ((spec_l07Wire.f a0_0 l0_1 a2).bind fun t105 => (spec_GraphAnd.j0 k a1 a2 (!t105) a0_0 l0_1)) else (spec_GraphAnd.j0 k a1 a2 true a0_0 l0_1)) = some (r1, r2, r3) := H
   have A9 := Aside0.mk A90; clear A90
   by_cases c10 : t104 = true
   ·subst c10
    have H1 : ((spec_l07Wire.f a0_0 l0_1 a2).bind fun t105 => (spec_GraphAnd.j0 k a1 a2 (!t105) a0_0 l0_1)) = some (r1, r2, r3) := by rw [if_pos rfl] at H; exact H
    clear H; have H := H1; clear H1
    replace H := Option.bind_eq_some_iff.mp H
    obtain ⟨t105, A110, H⟩ := H
    replace H : (spec_GraphAnd.j0 k a1 a2 (!t105) a0_0 l0_1) = some (r1, r2, r3) := H
    have A11 := Aside0.mk A110; clear A110
    have H' := Aside0.mk H
    clear H; have hnb12 := NB101_102.out; have hnc12 := NB102_101.out; have hcz13_0 : w6.cell? ⟨gb101, 0, none⟩ = some (.int .i64 a0_0) := (blk_cell BK101.out 0).trans rfl; have hcz13_1 : w6.cell? ⟨gb101, 1, none⟩ = some (.slice A0_1 l0_1.length c0_1) := (blk_cell BK101.out 1).trans rfl; have hfz13_0 := blk_frozen BK101.out 0; have hfz13_1 := blk_frozen BK101.out 1
    go_wp2_with (first | ((with_reducible refine gate_callee (f := 16) rfl ?_); refine goesL_ (some 11) rfl rfl Try.func16 (by kernel_rfl) rfl #[.agg #[.int .i64 a0_0, .slice A0_1 l0_1.length c0_1]] rfl (by (try simp only [List.map_toArray, List.map_cons, List.map_nil]); first | done | rfl | (simp only [List.length_drop, List.length_take]; rfl)) ?_; (with_reducible refine (spec_GraphOk.calls k a0_0 _ _ l0_1 true _ ?side1 ?side2 A7.out).mono ?_); (case side1 => repeat (first | exact (Kd.C_below HR0_1.out HB.out) | (with_reducible refine Kd.C_alloc ?_ _) | (with_reducible refine Kd.C_drewN ?_ _) | (with_reducible refine Kd.C_drew ?_))); (case side2 => exact HC0_1.out); rintro e w14 ⟨rfl, hb⟩; refine ⟨_, rfl, ?_⟩; have n0_ := bb BK101 hb; have n1_ := bb BK102 hb; have n2_ := bs2 HB hb GE101 GE102; clear BK101; clear BK102; clear HB; have BK101 := n0_; have BK102 := n1_; have HB := n2_; clear n0_ n1_ n2_; (try clear hb); (try clear hb2); (try clear hk); (try clear hi); have hcz15_0 : w14.cell? ⟨gb101, 0, none⟩ = some (.int .i64 a0_0) := (blk_cell BK101.out 0).trans rfl; have hcz15_1 : w14.cell? ⟨gb101, 1, none⟩ = some (.slice A0_1 l0_1.length c0_1) := (blk_cell BK101.out 1).trans rfl; have hfz15_0 := blk_frozen BK101.out 0; have hfz15_1 := blk_frozen BK101.out 1) | (go_at_call 62; (try simp only [i64_w, i32_w]); (with_reducible refine (spec_l07Wire.calls a0_0 _ _ l0_1 a1 true _ ?side1 ?side2 A9.out).mono ?_); (case side1 => repeat (first | exact (Kd.C_below HR0_1.out HB.out) | (with_reducible refine Kd.C_alloc ?_ _) | (with_reducible refine Kd.C_drewN ?_ _) | (with_reducible refine Kd.C_drew ?_))); (case side2 => exact HC0_1.out); rintro e w16 ⟨rfl, hb⟩; have n0_ := bb BK101 hb; have n1_ := bb BK102 hb; have n2_ := bs2 HB hb GE101 GE102; clear BK101; clear BK102; clear HB; have BK101 := n0_; have BK102 := n1_; have HB := n2_; clear n0_ n1_ n2_; (try clear hb); (try clear hb2); (try clear hk); (try clear hi); have hcz17_0 : w16.cell? ⟨gb101, 0, none⟩ = some (.int .i64 a0_0) := (blk_cell BK101.out 0).trans rfl; have hcz17_1 : w16.cell? ⟨gb101, 1, none⟩ = some (.slice A0_1 l0_1.length c0_1) := (blk_cell BK101.out 1).trans rfl; have hfz17_0 := blk_frozen BK101.out 0; have hfz17_1 := blk_frozen BK101.out 1) | (go_at_call 62; (try simp only [i64_w, i32_w]); (with_reducible refine (spec_l07Wire.calls a0_0 _ _ l0_1 a2 t105 _ ?side1 ?side2 A11.out).mono ?_); (case side1 => repeat (first | exact (Kd.C_below HR0_1.out HB.out) | (with_reducible refine Kd.C_alloc ?_ _) | (with_reducible refine Kd.C_drewN ?_ _) | (with_reducible refine Kd.C_drew ?_))); (case side2 => exact HC0_1.out); rintro e w18 ⟨rfl, hb⟩; have n0_ := bb BK101 hb; have n1_ := bb BK102 hb; have n2_ := bs2 HB hb GE101 GE102; clear BK101; clear BK102; clear HB; have BK101 := n0_; have BK102 := n1_; have HB := n2_; clear n0_ n1_ n2_; (try clear hb); (try clear hb2); (try clear hk); (try clear hi)))
    go_meet
    case rel => exact ⟨_, (!t105), (by first | rfl | (simp; done) | (simp [*]; done)), H', ⟨by first | omega | exact Nat.le_refl _⟩, ⟨by (with_reducible repeat (first | refine blk_drewN ?_ _ | refine blk_drew ?_ | refine blk_alloc ?_ _)); exact BK101.out⟩, ⟨by (with_reducible repeat (first | refine blk_drewN ?_ _ | refine blk_drew ?_ | refine blk_alloc ?_ _)); exact BK102.out⟩, ⟨by repeat (first | (with_reducible first | exact HB.out | apply below_alloc | apply pw_below_drewN | apply below_drew1 | refine below_set ?_ GE101.out | refine below_set ?_ GE102.out) | exact HB.out)⟩⟩
   ·replace c10 := Bool.eq_false_iff.mpr c10
    subst c10
    have H1 : (spec_GraphAnd.j0 k a1 a2 true a0_0 l0_1) = some (r1, r2, r3) := by rw [if_neg (show ¬ (false = true) by decide)] at H; exact H
    clear H; have H := H1; clear H1
    have H' := Aside0.mk H
    clear H; have hnb19 := NB101_102.out; have hnc19 := NB102_101.out; have hcz20_0 : w6.cell? ⟨gb101, 0, none⟩ = some (.int .i64 a0_0) := (blk_cell BK101.out 0).trans rfl; have hcz20_1 : w6.cell? ⟨gb101, 1, none⟩ = some (.slice A0_1 l0_1.length c0_1) := (blk_cell BK101.out 1).trans rfl; have hfz20_0 := blk_frozen BK101.out 0; have hfz20_1 := blk_frozen BK101.out 1
    go_wp2_with (first | ((with_reducible refine gate_callee (f := 16) rfl ?_); refine goesL_ (some 11) rfl rfl Try.func16 (by kernel_rfl) rfl #[.agg #[.int .i64 a0_0, .slice A0_1 l0_1.length c0_1]] rfl (by (try simp only [List.map_toArray, List.map_cons, List.map_nil]); first | done | rfl | (simp only [List.length_drop, List.length_take]; rfl)) ?_; (with_reducible refine (spec_GraphOk.calls k a0_0 _ _ l0_1 true _ ?side1 ?side2 A7.out).mono ?_); (case side1 => repeat (first | exact (Kd.C_below HR0_1.out HB.out) | (with_reducible refine Kd.C_alloc ?_ _) | (with_reducible refine Kd.C_drewN ?_ _) | (with_reducible refine Kd.C_drew ?_))); (case side2 => exact HC0_1.out); rintro e w21 ⟨rfl, hb⟩; refine ⟨_, rfl, ?_⟩; have n0_ := bb BK101 hb; have n1_ := bb BK102 hb; have n2_ := bs2 HB hb GE101 GE102; clear BK101; clear BK102; clear HB; have BK101 := n0_; have BK102 := n1_; have HB := n2_; clear n0_ n1_ n2_; (try clear hb); (try clear hb2); (try clear hk); (try clear hi); have hcz22_0 : w21.cell? ⟨gb101, 0, none⟩ = some (.int .i64 a0_0) := (blk_cell BK101.out 0).trans rfl; have hcz22_1 : w21.cell? ⟨gb101, 1, none⟩ = some (.slice A0_1 l0_1.length c0_1) := (blk_cell BK101.out 1).trans rfl; have hfz22_0 := blk_frozen BK101.out 0; have hfz22_1 := blk_frozen BK101.out 1) | (go_at_call 62; (try simp only [i64_w, i32_w]); (with_reducible refine (spec_l07Wire.calls a0_0 _ _ l0_1 a1 false _ ?side1 ?side2 A9.out).mono ?_); (case side1 => repeat (first | exact (Kd.C_below HR0_1.out HB.out) | (with_reducible refine Kd.C_alloc ?_ _) | (with_reducible refine Kd.C_drewN ?_ _) | (with_reducible refine Kd.C_drew ?_))); (case side2 => exact HC0_1.out); rintro e w23 ⟨rfl, hb⟩; have n0_ := bb BK101 hb; have n1_ := bb BK102 hb; have n2_ := bs2 HB hb GE101 GE102; clear BK101; clear BK102; clear HB; have BK101 := n0_; have BK102 := n1_; have HB := n2_; clear n0_ n1_ n2_; (try clear hb); (try clear hb2); (try clear hk); (try clear hi)))
    go_meet
    case rel => exact ⟨_, (true), (by first | rfl | (simp; done) | (simp [*]; done)), H', ⟨by first | omega | exact Nat.le_refl _⟩, ⟨by (with_reducible repeat (first | refine blk_drewN ?_ _ | refine blk_drew ?_ | refine blk_alloc ?_ _)); exact BK101.out⟩, ⟨by (with_reducible repeat (first | refine blk_drewN ?_ _ | refine blk_drew ?_ | refine blk_alloc ?_ _)); exact BK102.out⟩, ⟨by repeat (first | (with_reducible first | exact HB.out | apply below_alloc | apply pw_below_drewN | apply below_drew1 | refine below_set ?_ GE101.out | refine below_set ?_ GE102.out) | exact HB.out)⟩⟩
  ·replace c8 := Bool.eq_false_iff.mpr c8
   subst c8
   have H1 : (spec_GraphAnd.j0 k a1 a2 true a0_0 l0_1) = some (r1, r2, r3) := by rw [if_neg (show ¬ (false = true) by decide)] at H; exact H
   clear H; have H := H1; clear H1
   have H' := Aside0.mk H
   clear H; have hnb24 := NB101_102.out; have hnc24 := NB102_101.out; have hcz25_0 : w6.cell? ⟨gb101, 0, none⟩ = some (.int .i64 a0_0) := (blk_cell BK101.out 0).trans rfl; have hcz25_1 : w6.cell? ⟨gb101, 1, none⟩ = some (.slice A0_1 l0_1.length c0_1) := (blk_cell BK101.out 1).trans rfl; have hfz25_0 := blk_frozen BK101.out 0; have hfz25_1 := blk_frozen BK101.out 1
   go_wp2_with (first | ((with_reducible refine gate_callee (f := 16) rfl ?_); refine goesL_ (some 11) rfl rfl Try.func16 (by kernel_rfl) rfl #[.agg #[.int .i64 a0_0, .slice A0_1 l0_1.length c0_1]] rfl (by (try simp only [List.map_toArray, List.map_cons, List.map_nil]); first | done | rfl | (simp only [List.length_drop, List.length_take]; rfl)) ?_; (with_reducible refine (spec_GraphOk.calls k a0_0 _ _ l0_1 false _ ?side1 ?side2 A7.out).mono ?_); (case side1 => repeat (first | exact (Kd.C_below HR0_1.out HB.out) | (with_reducible refine Kd.C_alloc ?_ _) | (with_reducible refine Kd.C_drewN ?_ _) | (with_reducible refine Kd.C_drew ?_))); (case side2 => exact HC0_1.out); rintro e w26 ⟨rfl, hb⟩; refine ⟨_, rfl, ?_⟩; have n0_ := bb BK101 hb; have n1_ := bb BK102 hb; have n2_ := bs2 HB hb GE101 GE102; clear BK101; clear BK102; clear HB; have BK101 := n0_; have BK102 := n1_; have HB := n2_; clear n0_ n1_ n2_; (try clear hb); (try clear hb2); (try clear hk); (try clear hi)))
   go_meet
   case rel => exact ⟨_, (true), (by first | rfl | (simp; done) | (simp [*]; done)), H', ⟨by first | omega | exact Nat.le_refl _⟩, ⟨by (with_reducible repeat (first | refine blk_drewN ?_ _ | refine blk_drew ?_ | refine blk_alloc ?_ _)); exact BK101.out⟩, ⟨by (with_reducible repeat (first | refine blk_drewN ?_ _ | refine blk_drew ?_ | refine blk_alloc ?_ _)); exact BK102.out⟩, ⟨by repeat (first | (with_reducible first | exact HB.out | apply below_alloc | apply pw_below_drewN | apply below_drew1 | refine below_set ?_ GE101.out | refine below_set ?_ GE102.out) | exact HB.out)⟩⟩
 case rest =>
  clear HC4
  (try clear c1); (try clear c2); (try clear p2); (try clear c8); (try clear c10); (try clear c12); (try clear c16); (try clear c19); (try clear c24); (try clear hcz13_0); (try clear hcz13_1); (try clear hcz15_0); (try clear hcz15_1); (try clear hcz17_0); (try clear hcz17_1); (try clear hcz20_0); (try clear hcz20_1); (try clear hcz22_0); (try clear hcz22_1); (try clear hcz25_0); (try clear hcz25_1); (try clear hfz13_0); (try clear hfz13_1); (try clear hfz15_0); (try clear hfz15_1); (try clear hfz17_0); (try clear hfz17_1); (try clear hfz20_0); (try clear hfz20_1); (try clear hfz22_0); (try clear hfz22_1); (try clear hfz25_0); (try clear hfz25_1)
  obtain ⟨kq, x24_3, rfl, HA, HJ3, BK101, BK102, HB⟩ := hcut
  cases kq with
    | zero => exact absurd HA.out (by simp [spec_GraphAnd.j0])
    | succ kj3 =>
   have H := HA.out; clear HA
   simp only [spec_GraphAnd.j0] at H
   by_cases c27 : x24_3 = true
   ·subst c27
    have H1 : ((spec_l07Copy.f a0_0 l0_1).bind fun bt106 => (some (bt106.1, bt106.2, (-1)))) = some (r1, r2, r3) := by rw [if_pos rfl] at H; exact H
    clear H; have H := H1; clear H1
    replace H := Option.bind_eq_some_iff.mp H
    obtain ⟨⟨t106, t107⟩, A280, H⟩ := H
    replace H : (some (t106, t107, (-1))) = some (r1, r2, r3) := H
    have A28 := Aside0.mk A280; clear A280
    simp only [Option.some.injEq, Prod.mk.injEq] at H
    obtain ⟨rfl, rfl, rfl⟩ := H
    have hnb29 := NB101_102.out; have hnc29 := NB102_101.out; have hcz30_0 : wc.cell? ⟨gb101, 0, none⟩ = some (.int .i64 a0_0) := (blk_cell BK101.out 0).trans rfl; have hcz30_1 : wc.cell? ⟨gb101, 1, none⟩ = some (.slice A0_1 l0_1.length c0_1) := (blk_cell BK101.out 1).trans rfl; have hfz30_0 := blk_frozen BK101.out 0; have hfz30_1 := blk_frozen BK101.out 1
    go_wp2_with (first | ((with_reducible refine gate_callee (f := 70) rfl ?_); refine goesL_ (some 26) rfl rfl Try.func70 (by kernel_rfl) rfl #[.agg #[.int .i64 a0_0, .slice A0_1 l0_1.length c0_1]] rfl (by (try simp only [List.map_toArray, List.map_cons, List.map_nil]); first | done | rfl | (simp only [List.length_drop, List.length_take]; rfl)) ?_; (with_reducible refine (spec_l07Copy.calls a0_0 _ _ l0_1 t106 t107 _ ?side1 ?side2 A28.out).mono ?_); (case side1 => repeat (first | exact (Kd.C_below HR0_1.out HB.out) | (with_reducible refine Kd.C_alloc ?_ _) | (with_reducible refine Kd.C_drewN ?_ _) | (with_reducible refine Kd.C_drew ?_))); (case side2 => exact HC0_1.out); rintro e w31 ⟨v108, rfl, ho0, hb⟩; refine ⟨_, rfl, ?_⟩; have n0_ := Aside0.mk (Kd.R_lower ho0 (below_size (by repeat (first | (with_reducible first | exact HB.out | apply below_alloc | apply pw_below_drewN | apply below_drew1 | refine below_set ?_ GE101.out | refine below_set ?_ GE102.out) | exact HB.out)))); have n1_ := bb BK101 hb; have n2_ := bb BK102 hb; have n3_ := bs2 HB hb GE101 GE102; clear BK101; clear BK102; clear HB; have HO109 := n0_; have BK101 := n1_; have BK102 := n2_; have HB := n3_; clear n0_ n1_ n2_ n3_; (try clear hb); (try clear hb2); (try clear hk); (try clear hi); (try clear ho0); have hcz32_0 : w31.cell? ⟨gb102, 0, none⟩ = some (.int .i64 0) := (blk_cell BK102.out 0).trans rfl; have hcz32_1 : w31.cell? ⟨gb102, 1, none⟩ = some (.slice none 0 0) := (blk_cell BK102.out 1).trans rfl; have hfz32_0 := blk_frozen BK102.out 0; have hfz32_1 := blk_frozen BK102.out 1; obtain ⟨Ao33, co33, eo33⟩ := Kd.R_slice HO109.out; subst eo33))
    refine bodyPost_ret (results_ct rfl _ _ gb102 29 #[.int .i64 t106, .slice Ao33 t107.length co33] (0, 0) _ rfl (by (with_reducible repeat (first | refine blk_drewN ?_ _ | refine blk_drew ?_ | refine blk_alloc ?_ _)); exact bp2 BK102.out) Try.underlying29 rfl (by kernel_rfl)) rfl ?_
    exact ⟨_, by first | rfl | (simp [errW_none, errW_some] <;> rfl) | (simp [*, errW_none, errW_some] <;> rfl), by (with_reducible repeat (first | apply Kd.R_alloc | apply Kd.R_drewN | apply Kd.R_drew)); exact Kd.R_mono (Kd.R_far (p := ⟨gb102, 1, none⟩) (Kd.R_far (p := ⟨gb102, 0, none⟩) (Kd.R_types HO109.out BK102.out (by decide)) (fun _ hk => hk.2) (.int .i64 t106)) (fun _ hk => hk.2) (.slice Ao33 t107.length co33)) (fun _ hk => trivial), by repeat (first | (with_reducible first | exact HB.out | apply below_alloc | apply pw_below_drewN | apply below_drew1 | refine below_set ?_ GE101.out | refine below_set ?_ GE102.out) | exact HB.out)⟩
   ·replace c27 := Bool.eq_false_iff.mpr c27
    subst c27
    have H1 : ((spec_l07Copy.f a0_0 l0_1).bind fun bt110 => ((spec_l07And.f kj3 bt110.1 bt110.2 a1 a2).bind fun bt114 => (if bt114.2.2 < 0 then ((spec_l07Copy.f a0_0 l0_1).bind fun bt120 => (some (bt120.1, bt120.2, (-1)))) else (some (bt114.1, bt114.2.1, bt114.2.2))))) = some (r1, r2, r3) := by rw [if_neg (show ¬ (false = true) by decide)] at H; exact H
    clear H; have H := H1; clear H1
    replace H := Option.bind_eq_some_iff.mp H
    obtain ⟨⟨t110, t111⟩, A340, H⟩ := H
    replace H : ((spec_l07And.f kj3 t110 t111 a1 a2).bind fun bt114 => (if bt114.2.2 < 0 then ((spec_l07Copy.f a0_0 l0_1).bind fun bt120 => (some (bt120.1, bt120.2, (-1)))) else (some (bt114.1, bt114.2.1, bt114.2.2)))) = some (r1, r2, r3) := H
    have A34 := Aside0.mk A340; clear A340
    replace H := Option.bind_eq_some_iff.mp H
    obtain ⟨⟨t114, t115, t118⟩, A350, H⟩ := H
    replace H : (if t118 < 0 then ((spec_l07Copy.f a0_0 l0_1).bind fun bt120 => (some (bt120.1, bt120.2, (-1)))) else (some (t114, t115, t118))) = some (r1, r2, r3) := H
    have A35 := Aside0.mk A350; clear A350
    by_cases c36 : t118 < 0
    ·rw [if_pos c36] at H
     have c36b0 : decide (t118 < 0) = true := decide_eq_true c36; clear c36
     replace H := Option.bind_eq_some_iff.mp H
     obtain ⟨⟨t120, t121⟩, A370, H⟩ := H
     replace H : (some (t120, t121, (-1))) = some (r1, r2, r3) := H
     have A37 := Aside0.mk A370; clear A370
     simp only [Option.some.injEq, Prod.mk.injEq] at H
     obtain ⟨rfl, rfl, rfl⟩ := H
     have hnb38 := NB101_102.out; have hnc38 := NB102_101.out; have hcz39_0 : wc.cell? ⟨gb101, 0, none⟩ = some (.int .i64 a0_0) := (blk_cell BK101.out 0).trans rfl; have hcz39_1 : wc.cell? ⟨gb101, 1, none⟩ = some (.slice A0_1 l0_1.length c0_1) := (blk_cell BK101.out 1).trans rfl; have hfz39_0 := blk_frozen BK101.out 0; have hfz39_1 := blk_frozen BK101.out 1
     go_wp2_with (first | ((with_reducible refine gate_callee (f := 70) rfl ?_); refine goesL_ (some 29) rfl rfl Try.func70 (by kernel_rfl) rfl #[.agg #[.int .i64 a0_0, .slice A0_1 l0_1.length c0_1]] rfl (by (try simp only [List.map_toArray, List.map_cons, List.map_nil]); first | done | rfl | (simp only [List.length_drop, List.length_take]; rfl)) ?_; (with_reducible refine (spec_l07Copy.calls a0_0 _ _ l0_1 t110 t111 _ ?side1 ?side2 A34.out).mono ?_); (case side1 => repeat (first | exact (Kd.C_below HR0_1.out HB.out) | (with_reducible refine Kd.C_alloc ?_ _) | (with_reducible refine Kd.C_drewN ?_ _) | (with_reducible refine Kd.C_drew ?_))); (case side2 => exact HC0_1.out); rintro e w40 ⟨v112, rfl, ho0, hb⟩; refine ⟨_, rfl, ?_⟩; have n0_ := Aside0.mk (Kd.R_lower ho0 (below_size (by repeat (first | (with_reducible first | exact HB.out | apply below_alloc | apply pw_below_drewN | apply below_drew1 | refine below_set ?_ GE101.out | refine below_set ?_ GE102.out) | exact HB.out)))); have n1_ := bb BK101 hb; have n2_ := bb BK102 hb; have n3_ := bs2 HB hb GE101 GE102; clear BK101; clear BK102; clear HB; have HO113 := n0_; have BK101 := n1_; have BK102 := n2_; have HB := n3_; clear n0_ n1_ n2_ n3_; (try clear hb); (try clear hb2); (try clear hk); (try clear hi); (try clear ho0); obtain ⟨Ao41, co41, eo41⟩ := Kd.R_slice HO113.out; subst eo41) | ((with_reducible refine gate_callee (f := 71) rfl ?_); refine goesL_ (some 32) rfl rfl Try.func71 (by kernel_rfl) rfl #[.agg #[.int .i64 t110, .slice Ao41 t111.length co41], .int .i64 a1, .int .i64 a2] rfl (by (try simp only [List.map_toArray, List.map_cons, List.map_nil]); first | done | rfl | (simp only [List.length_drop, List.length_take]; rfl)) ?_; (with_reducible refine (spec_l07And.calls kj3 t110 (fun k_ => some k_ = (.slice Ao41 t111.length co41 : Value).ownBlock) (.slice Ao41 t111.length co41) t111 a1 a2 t114 t115 t118 w _ ?side1 ?side2 A35.out).mono ?_); (case side1 => repeat (first | (with_reducible first | exact HB.out | apply below_alloc | apply pw_below_drewN | apply below_drew1 | refine below_set ?_ GE101.out | refine below_set ?_ GE102.out) | exact HB.out)); (case side2 => exact Kd.R_tight rfl HO113.out); rintro e w42 ⟨v116, rfl, ho0, hb, hkp⟩; refine ⟨_, rfl, ?_⟩; have n0_ := Aside0.mk (blk_kept (dr BK101) hkp (fun hs_ => (fun e_ => (Kd.R_ne HO113.out BK101.out (by decide)) e_) hs_)); have n1_ := Aside0.mk (blk_kept (dr BK102) hkp (fun hs_ => (fun e_ => (Kd.R_ne HO113.out BK102.out (by decide)) e_) hs_)); have n2_ := Aside0.mk (Kd.R_mono (ok' := fun k_ => True) ho0 (fun k_ hk_ => trivial)); have n3_ := Aside0.mk (hb); clear BK101; clear BK102; clear HB; clear HO113; have BK101 := n0_; have BK102 := n1_; have HO117 := n2_; have HB := n3_; clear n0_ n1_ n2_ n3_; (try clear hb); (try clear hkp); (try clear ho0)) | ((with_reducible refine gate_dst (N := 8) rfl ?_); refine box_event ?hg (N := 8) ?hd (cs := #[.int .i64 0, .slice none 0 0]) (t := 29) ?hr ?_; (case hd => rfl); (case hg => rfl); (case hr => first | (go_simp; done) | (go_simp; rfl)); intro gb119 hg w43 hbox hb; have n0_ := rb HO117 hb; have n1_ := bb BK101 hb; have n2_ := bb BK102 hb; have n3_ := bs2 HB hb GE101 GE102; have n4_ := Aside0.mk (hbox); have n5_ := bz2 hg HB GE101 GE102; have n6_ := bz2 hg HB GE101 GE102; have n7_ := nl hg BK101; have n8_ := ng hg BK101; have n9_ := nl hg BK102; have n10_ := ng hg BK102; clear HO117; clear BK101; clear BK102; clear HB; have HO117 := n0_; have BK101 := n1_; have BK102 := n2_; have HB := n3_; have BK119 := n4_; have GW119 := n5_; have GE119 := n6_; have NB101_119 := n7_; have NB119_101 := n8_; have NB102_119 := n9_; have NB119_102 := n10_; clear n0_ n1_ n2_ n3_ n4_ n5_ n6_ n7_ n8_ n9_ n10_; clear hb hbox hg; have hnb44 := NB119_101.out; have hnc44 := NB101_119.out; have hnb45 := NB119_102.out; have hnc45 := NB102_119.out; have hcz46_0 : w43.cell? ⟨gb119, 0, none⟩ = some (.int .i64 0) := (blk_cell BK119.out 0).trans rfl; have hcz46_1 : w43.cell? ⟨gb119, 1, none⟩ = some (.slice none 0 0) := (blk_cell BK119.out 1).trans rfl; have hfz46_0 := blk_frozen BK119.out 0; have hfz46_1 := blk_frozen BK119.out 1; obtain ⟨Ao47, co47, eo47⟩ := Kd.R_slice HO117.out; subst eo47; have hcz48_0 : w43.cell? ⟨gb101, 0, none⟩ = some (.int .i64 a0_0) := (blk_cell BK101.out 0).trans rfl; have hcz48_1 : w43.cell? ⟨gb101, 1, none⟩ = some (.slice A0_1 l0_1.length c0_1) := (blk_cell BK101.out 1).trans rfl; have hfz48_0 := blk_frozen BK101.out 0; have hfz48_1 := blk_frozen BK101.out 1) | ((with_reducible refine gate_callee (f := 70) rfl ?_); refine goesL_ (some 38) rfl rfl Try.func70 (by kernel_rfl) rfl #[.agg #[.int .i64 a0_0, .slice A0_1 l0_1.length c0_1]] rfl (by (try simp only [List.map_toArray, List.map_cons, List.map_nil]); first | done | rfl | (simp only [List.length_drop, List.length_take]; rfl)) ?_; (with_reducible refine (spec_l07Copy.calls a0_0 _ _ l0_1 t120 t121 _ ?side1 ?side2 A37.out).mono ?_); (case side1 => exact Kd.C_below HR0_1.out (by repeat (first | (with_reducible first | exact HB.out | apply below_alloc | apply pw_below_drewN | apply below_drew1 | refine below_set ?_ GE101.out | refine below_set ?_ GE102.out | refine below_set ?_ GE119.out) | exact HB.out))); (case side2 => exact HC0_1.out); rintro e w49 ⟨v122, rfl, ho0, hb⟩; refine ⟨_, rfl, ?_⟩; have n0_ := Aside0.mk (Kd.R_elder' (by (with_reducible repeat (first | apply Kd.R_alloc | apply Kd.R_drewN | apply Kd.R_drew)); exact (rf HO117 BK119)) (Kd.R_base ho0) hb); have n1_ := Aside0.mk (Kd.R_lower (Kd.R_new' ho0 (Kd.R_lt (by (with_reducible repeat (first | apply Kd.R_alloc | apply Kd.R_drewN | apply Kd.R_drew)); exact (rf HO117 BK119)))) (below_size (by repeat (first | (with_reducible first | exact HB.out | apply below_alloc | apply pw_below_drewN | apply below_drew1 | refine below_set ?_ GE101.out | refine below_set ?_ GE102.out | refine below_set ?_ GE119.out) | exact HB.out)))); have n2_ := Aside0.mk (blk_below (dq BK101 NB101_119) hb); have n3_ := Aside0.mk (blk_below (dq BK102 NB102_119) hb); have n4_ := Aside0.mk (blk_below (g := gb119) (o := .cells #[.int .i64 t114, .slice Ao47 t115.length co47] 29 (0, 0)) (by (with_reducible repeat (first | refine blk_drewN ?_ _ | refine blk_drew ?_ | refine blk_alloc ?_ _)); exact bp2 BK119.out) hb); have n5_ := bs3 HB hb GE101 GE102 GE119; clear HO117; clear BK101; clear BK102; clear BK119; clear HB; have HO117 := n0_; have HO123 := n1_; have BK101 := n2_; have BK102 := n3_; have BK119 := n4_; have HB := n5_; clear n0_ n1_ n2_ n3_ n4_ n5_; (try clear hb); (try clear hb2); (try clear hk); (try clear hi); (try clear ho0); have hcz50_0 : w49.cell? ⟨gb102, 0, none⟩ = some (.int .i64 0) := (blk_cell BK102.out 0).trans rfl; have hcz50_1 : w49.cell? ⟨gb102, 1, none⟩ = some (.slice none 0 0) := (blk_cell BK102.out 1).trans rfl; have hfz50_0 := blk_frozen BK102.out 0; have hfz50_1 := blk_frozen BK102.out 1; obtain ⟨Ao51, co51, eo51⟩ := Kd.R_slice HO123.out; subst eo51))
     refine bodyPost_ret (results_ct rfl _ _ gb102 29 #[.int .i64 t120, .slice Ao51 t121.length co51] (0, 0) _ rfl (by (with_reducible repeat (first | refine blk_drewN ?_ _ | refine blk_drew ?_ | refine blk_alloc ?_ _)); exact bp2 BK102.out) Try.underlying29 rfl (by kernel_rfl)) rfl ?_
     exact ⟨_, by first | rfl | (simp [errW_none, errW_some] <;> rfl) | (simp [*, errW_none, errW_some] <;> rfl), by (with_reducible repeat (first | apply Kd.R_alloc | apply Kd.R_drewN | apply Kd.R_drew)); exact Kd.R_mono (Kd.R_far (p := ⟨gb102, 1, none⟩) (Kd.R_far (p := ⟨gb102, 0, none⟩) (Kd.R_types HO123.out BK102.out (by decide)) (fun _ hk => hk.2) (.int .i64 t120)) (fun _ hk => hk.2) (.slice Ao51 t121.length co51)) (fun _ hk => trivial), by repeat (first | (with_reducible first | exact HB.out | apply below_alloc | apply pw_below_drewN | apply below_drew1 | refine below_set ?_ GE101.out | refine below_set ?_ GE102.out | refine below_set ?_ GE119.out) | exact HB.out)⟩
    ·rw [if_neg c36] at H
     have c36b0 : decide (t118 < 0) = false := decide_eq_false c36; clear c36
     simp only [Option.some.injEq, Prod.mk.injEq] at H
     obtain ⟨rfl, rfl, rfl⟩ := H
     have hnb52 := NB101_102.out; have hnc52 := NB102_101.out; have hcz53_0 : wc.cell? ⟨gb101, 0, none⟩ = some (.int .i64 a0_0) := (blk_cell BK101.out 0).trans rfl; have hcz53_1 : wc.cell? ⟨gb101, 1, none⟩ = some (.slice A0_1 l0_1.length c0_1) := (blk_cell BK101.out 1).trans rfl; have hfz53_0 := blk_frozen BK101.out 0; have hfz53_1 := blk_frozen BK101.out 1
     go_wp2_with (first | ((with_reducible refine gate_callee (f := 70) rfl ?_); refine goesL_ (some 29) rfl rfl Try.func70 (by kernel_rfl) rfl #[.agg #[.int .i64 a0_0, .slice A0_1 l0_1.length c0_1]] rfl (by (try simp only [List.map_toArray, List.map_cons, List.map_nil]); first | done | rfl | (simp only [List.length_drop, List.length_take]; rfl)) ?_; (with_reducible refine (spec_l07Copy.calls a0_0 _ _ l0_1 t110 t111 _ ?side1 ?side2 A34.out).mono ?_); (case side1 => repeat (first | exact (Kd.C_below HR0_1.out HB.out) | (with_reducible refine Kd.C_alloc ?_ _) | (with_reducible refine Kd.C_drewN ?_ _) | (with_reducible refine Kd.C_drew ?_))); (case side2 => exact HC0_1.out); rintro e w54 ⟨v112, rfl, ho0, hb⟩; refine ⟨_, rfl, ?_⟩; have n0_ := Aside0.mk (Kd.R_lower ho0 (below_size (by repeat (first | (with_reducible first | exact HB.out | apply below_alloc | apply pw_below_drewN | apply below_drew1 | refine below_set ?_ GE101.out | refine below_set ?_ GE102.out) | exact HB.out)))); have n1_ := bb BK101 hb; have n2_ := bb BK102 hb; have n3_ := bs2 HB hb GE101 GE102; clear BK101; clear BK102; clear HB; have HO113 := n0_; have BK101 := n1_; have BK102 := n2_; have HB := n3_; clear n0_ n1_ n2_ n3_; (try clear hb); (try clear hb2); (try clear hk); (try clear hi); (try clear ho0); obtain ⟨Ao55, co55, eo55⟩ := Kd.R_slice HO113.out; subst eo55) | ((with_reducible refine gate_callee (f := 71) rfl ?_); refine goesL_ (some 32) rfl rfl Try.func71 (by kernel_rfl) rfl #[.agg #[.int .i64 t110, .slice Ao55 t111.length co55], .int .i64 a1, .int .i64 a2] rfl (by (try simp only [List.map_toArray, List.map_cons, List.map_nil]); first | done | rfl | (simp only [List.length_drop, List.length_take]; rfl)) ?_; (with_reducible refine (spec_l07And.calls kj3 t110 (fun k_ => some k_ = (.slice Ao55 t111.length co55 : Value).ownBlock) (.slice Ao55 t111.length co55) t111 a1 a2 t114 t115 t118 w _ ?side1 ?side2 A35.out).mono ?_); (case side1 => repeat (first | (with_reducible first | exact HB.out | apply below_alloc | apply pw_below_drewN | apply below_drew1 | refine below_set ?_ GE101.out | refine below_set ?_ GE102.out) | exact HB.out)); (case side2 => exact Kd.R_tight rfl HO113.out); rintro e w56 ⟨v116, rfl, ho0, hb, hkp⟩; refine ⟨_, rfl, ?_⟩; have n0_ := Aside0.mk (blk_kept (dr BK101) hkp (fun hs_ => (fun e_ => (Kd.R_ne HO113.out BK101.out (by decide)) e_) hs_)); have n1_ := Aside0.mk (blk_kept (dr BK102) hkp (fun hs_ => (fun e_ => (Kd.R_ne HO113.out BK102.out (by decide)) e_) hs_)); have n2_ := Aside0.mk (Kd.R_mono (ok' := fun k_ => True) ho0 (fun k_ hk_ => trivial)); have n3_ := Aside0.mk (hb); clear BK101; clear BK102; clear HB; clear HO113; have BK101 := n0_; have BK102 := n1_; have HO117 := n2_; have HB := n3_; clear n0_ n1_ n2_ n3_; (try clear hb); (try clear hkp); (try clear ho0)) | ((with_reducible refine gate_dst (N := 8) rfl ?_); refine box_event ?hg (N := 8) ?hd (cs := #[.int .i64 0, .slice none 0 0]) (t := 29) ?hr ?_; (case hd => rfl); (case hg => rfl); (case hr => first | (go_simp; done) | (go_simp; rfl)); intro gb119 hg w57 hbox hb; have n0_ := rb HO117 hb; have n1_ := bb BK101 hb; have n2_ := bb BK102 hb; have n3_ := bs2 HB hb GE101 GE102; have n4_ := Aside0.mk (hbox); have n5_ := bz2 hg HB GE101 GE102; have n6_ := bz2 hg HB GE101 GE102; have n7_ := nl hg BK101; have n8_ := ng hg BK101; have n9_ := nl hg BK102; have n10_ := ng hg BK102; clear HO117; clear BK101; clear BK102; clear HB; have HO117 := n0_; have BK101 := n1_; have BK102 := n2_; have HB := n3_; have BK119 := n4_; have GW119 := n5_; have GE119 := n6_; have NB101_119 := n7_; have NB119_101 := n8_; have NB102_119 := n9_; have NB119_102 := n10_; clear n0_ n1_ n2_ n3_ n4_ n5_ n6_ n7_ n8_ n9_ n10_; clear hb hbox hg; have hnb58 := NB119_101.out; have hnc58 := NB101_119.out; have hnb59 := NB119_102.out; have hnc59 := NB102_119.out; have hcz60_0 : w57.cell? ⟨gb119, 0, none⟩ = some (.int .i64 0) := (blk_cell BK119.out 0).trans rfl; have hcz60_1 : w57.cell? ⟨gb119, 1, none⟩ = some (.slice none 0 0) := (blk_cell BK119.out 1).trans rfl; have hfz60_0 := blk_frozen BK119.out 0; have hfz60_1 := blk_frozen BK119.out 1; obtain ⟨Ao61, co61, eo61⟩ := Kd.R_slice HO117.out; subst eo61; have hcz62_0 : w57.cell? ⟨gb102, 0, none⟩ = some (.int .i64 0) := (blk_cell BK102.out 0).trans rfl; have hcz62_1 : w57.cell? ⟨gb102, 1, none⟩ = some (.slice none 0 0) := (blk_cell BK102.out 1).trans rfl; have hfz62_0 := blk_frozen BK102.out 0; have hfz62_1 := blk_frozen BK102.out 1))
     refine bodyPost_ret (results_ct rfl _ _ gb102 29 #[.int .i64 t114, .slice Ao61 t115.length co61] (0, 0) _ rfl (by (with_reducible repeat (first | refine blk_drewN ?_ _ | refine blk_drew ?_ | refine blk_alloc ?_ _)); refine blk_put (cs := #[.int .i64 t114, .slice none 0 0]) ?_ 1 _ rfl; (with_reducible repeat (first | refine blk_drewN ?_ _ | refine blk_drew ?_ | refine blk_alloc ?_ _)); refine blk_put (cs := #[.int .i64 0, .slice none 0 0]) ?_ 0 _ rfl; (with_reducible repeat (first | refine blk_drewN ?_ _ | refine blk_drew ?_ | refine blk_alloc ?_ _)); refine blk_far ?_ NB102_119.out _; (with_reducible repeat (first | refine blk_drewN ?_ _ | refine blk_drew ?_ | refine blk_alloc ?_ _)); refine blk_far ?_ NB102_119.out _; (with_reducible repeat (first | refine blk_drewN ?_ _ | refine blk_drew ?_ | refine blk_alloc ?_ _)); exact BK102.out) Try.underlying29 rfl (by kernel_rfl)) rfl ?_
     exact ⟨_, by first | rfl | (simp [errW_none, errW_some] <;> rfl) | (simp [*, errW_none, errW_some] <;> rfl), by (with_reducible repeat (first | apply Kd.R_alloc | apply Kd.R_drewN | apply Kd.R_drew)); exact Kd.R_mono (Kd.R_far (p := ⟨gb102, 1, none⟩) (Kd.R_far (p := ⟨gb102, 0, none⟩) (Kd.R_far (p := ⟨gb119, 1, none⟩) (Kd.R_far (p := ⟨gb119, 0, none⟩) (Kd.R_types (Kd.R_types HO117.out BK119.out (by decide)) BK102.out (by decide)) (fun _ hk => hk.1.2) (.int .i64 t114)) (fun _ hk => hk.1.2) (.slice Ao61 t115.length co61)) (fun _ hk => hk.2) (.int .i64 t114)) (fun _ hk => hk.2) (.slice Ao61 t115.length co61)) (fun _ hk => trivial), by repeat (first | (with_reducible first | exact HB.out | apply below_alloc | apply pw_below_drewN | apply below_drew1 | refine below_set ?_ GE101.out | refine below_set ?_ GE102.out | refine below_set ?_ GE119.out) | exact HB.out)⟩

end Go.Proofs.Yteagogcpbcickaa.G
-- written by a program of this session (wip/gen/gen.py); Lean checks it
namespace Go.Proofs.Yteagogcpbcickaa.G
open Go.Proofs.Yteagogcpbcickaa.Sh Go.RowKit Go.Proofs.YteagogcpbcickaaW.PrintWords Go.Proofs.YteagogcpbcickaaW.PrintLast Go.Proofs.YteagogcpbcickaaW.PrintMore
attribute [local go_sem] max2_int min2_int max_two min_two max_three min_three max_four min_four   -- for this text's walks alone
set_option linter.unusedVariables false
set_option linter.unusedSimpArgs false

/-! ### spec_GraphOr: function 33 -/
def spec_GraphOr.j0 : Nat → Int → Int → Bool → Int → List (S79) → Option (Int × (List (S79)) × Int)
  | 0, _, _, _, _, _ => none
  | k + 1, x1, x2, x24, x102000, x102001 => if x24 = true then ((spec_l07Copy.f x102000 x102001).bind fun bt106 => (some (bt106.1, bt106.2, (-1)))) else ((spec_l07Copy.f x102000 x102001).bind fun bt110 => ((spec_l07Or.f k bt110.1 bt110.2 x1 x2).bind fun bt114 => (if bt114.2.2 < 0 then ((spec_l07Copy.f x102000 x102001).bind fun bt120 => (some (bt120.1, bt120.2, (-1)))) else (some (bt114.1, bt114.2.1, bt114.2.2)))))
def spec_GraphOr.f (k : Nat) (a0_0 : Int) (l0_1 : List (S79)) (a1 : Int) (a2 : Int) : Option (Int × (List (S79)) × Int) := (spec_GraphOk.f k a0_0 l0_1).bind fun t103 => (if t103 = true then ((spec_l07Wire.f a0_0 l0_1 a1).bind fun t104 => (if t104 = true then ((spec_l07Wire.f a0_0 l0_1 a2).bind fun t105 => (spec_GraphOr.j0 k a1 a2 (!t105) a0_0 l0_1)) else (spec_GraphOr.j0 k a1 a2 true a0_0 l0_1))) else (spec_GraphOr.j0 k a1 a2 true a0_0 l0_1))
set_option maxHeartbeats 80000000 in
set_option maxRecDepth 100000 in
theorem spec_GraphOr.calls (k : Nat) (a0_0 : Int) (A0_1 : Option Addr) (c0_1 : Nat) (l0_1 : List (S79)) (a1 : Int) (a2 : Int) (r1 : Int) (r2 : List (S79)) (r3 : Int) (w : World) (hr0_1 : Kd.C k79 w A0_1 l0_1.length l0_1) (hc0_1 : l0_1.length ≤ c0_1) (h : spec_GraphOr.f k a0_0 l0_1 a1 a2 = some (r1, r2, r3)) :
  Calls Try.prog 33 #[.agg #[.int .i64 a0_0, .slice A0_1 l0_1.length c0_1], .int .i64 a1, .int .i64 a2] w fun e w' => ∃ v1_ : Value, e = .returned (.tuple #[.agg #[.int .i64 r1, v1_], .int .i64 r3]) ∧ Kd.R k79 79 w' w.heap.size (fun _ => True) v1_ r2 ∧ Below w.heap.size w w' := by
 have hu29 := Try.underlying29; have HR0_1 := Aside0.mk hr0_1; have HC0_1 := Aside0.mk hc0_1; clear hr0_1 hc0_1; have HB := Aside0.mk (Below.refl w.heap.size w)
 have H : ((spec_GraphOk.f k a0_0 l0_1).bind fun t103 => (if t103 = true then ((spec_l07Wire.f a0_0 l0_1 a1).bind fun t104 => (if t104 = true then ((spec_l07Wire.f a0_0 l0_1 a2).bind fun t105 => (spec_GraphOr.j0 k a1 a2 (!t105) a0_0 l0_1)) else (spec_GraphOr.j0 k a1 a2 true a0_0 l0_1))) else (spec_GraphOr.j0 k a1 a2 true a0_0 l0_1))) = some (r1, r2, r3) := h
 clear h; have HC4 := Aside0.mk H; clear H
 go_enter Try.func33, Try.ntmps33
 go_upto_region 1 with (first | ((with_reducible refine gate_dst (N := 3) rfl ?_); refine box_event ?hg (N := 3) ?hd (cs := #[.int .i64 a0_0, .slice A0_1 l0_1.length c0_1]) (t := 29) ?hr ?_; (case hd => rfl); (case hg => rfl); (case hr => first | (go_simp; done) | (go_simp; rfl)); intro gb101 hg w5 hbox hb; have n0_ := bs0 HB hb; have n1_ := Aside0.mk (hbox); have n2_ := bz0 hg HB; have n3_ := bz0 hg HB; clear HB; have HB := n0_; have BK101 := n1_; have GW101 := n2_; have GE101 := n3_; clear n0_ n1_ n2_ n3_; clear hb hbox hg) | ((with_reducible refine gate_dst (N := 6) rfl ?_); refine box_event ?hg (N := 6) ?hd (cs := #[.int .i64 0, .slice none 0 0]) (t := 29) ?hr ?_; (case hd => rfl); (case hg => rfl); (case hr => first | (go_simp; done) | (go_simp; rfl)); intro gb102 hg w6 hbox hb; have n0_ := bb BK101 hb; have n1_ := bs1 HB hb GE101; have n2_ := Aside0.mk (hbox); have n3_ := bz1 hg HB GE101; have n4_ := bz1 hg HB GE101; have n5_ := nl hg BK101; have n6_ := ng hg BK101; clear BK101; clear HB; have BK101 := n0_; have HB := n1_; have BK102 := n2_; have GW102 := n3_; have GE102 := n4_; have NB101_102 := n5_; have NB102_101 := n6_; clear n0_ n1_ n2_ n3_ n4_ n5_ n6_; clear hb hbox hg))
 (try simp only [Act.put, List.setIfInBounds_toArray, List.set_cons_zero, List.set_cons_succ])
 go_cut [24] (fun v24 wc => ∃ (kq : Nat) (x24_3 : Bool), v24 = .bool x24_3 ∧ Aside0 (spec_GraphOr.j0 kq a1 a2 x24_3 a0_0 l0_1 = some (r1, r2, r3)) ∧ Aside0 (kq ≤ k) ∧ Aside0 (wc.heap[gb101]? = some (.cells #[.int .i64 a0_0, (.slice A0_1 l0_1.length c0_1)] 29 (0, 0))) ∧ Aside0 (wc.heap[gb102]? = some (.cells #[.int .i64 0, (.slice none 0 0)] 29 (0, 0))) ∧ Aside0 (Below w.heap.size w wc))
 case first =>
  have H := HC4.out; clear HC4
  replace H := Option.bind_eq_some_iff.mp H
  obtain ⟨t103, A70, H⟩ := H
  replace H : (if t103 = true then ((spec_l07Wire.f a0_0 l0_1 a1).bind fun t104 => (if t104 = true then ((spec_l07Wire.f a0_0 l0_1 a2).bind fun t105 => (spec_GraphOr.j0 k a1 a2 (!t105) a0_0 l0_1)) else (spec_GraphOr.j0 k a1 a2 true a0_0 l0_1))) else (spec_GraphOr.j0 k a1 a2 true a0_0 l0_1)) = some (r1, r2, r3) := H
  have A7 := Aside0.mk A70; clear A70
  by_cases c8 : t103 = true
  ·subst c8
   have H1 : ((spec_l07Wire.f a0_0 l0_1 a1).bind fun t104 => (if t104 = true then ((spec_l07Wire.f a0_0 l0_1 a2).bind fun t105 => (spec_GraphOr.j0 k a1 a2 (!t105) a0_0 l0_1)) else (spec_GraphOr.j0 k a1 a2 true a0_0 l0_1))) = some (r1, r2, r3) := by rw [if_pos rfl] at H; exact H
   clear H; have H := H1; clear H1
   replace H := Option.bind_eq_some_iff.mp H
   obtain ⟨t104, A90, H⟩ := H
   replace H : (if t104 = true then ((spec_l07Wire.f a0_0 l0_1 a2).bind fun t105 => (spec_GraphOr.j0 k a1 a2 (!t105) a0_0 l0_1)) else (spec_GraphOr.j0 k a1 a2 true a0_0 l0_1)) = some (r1, r2, r3) := H
   have A9 := Aside0.mk A90; clear A90
   by_cases c10 : t104 = true
   ·subst c10
    have H1 : ((spec_l07Wire.f a0_0 l0_1 a2).bind fun t105 => (spec_GraphOr.j0 k a1 a2 (!t105) a0_0 l0_1)) = some (r1, r2, r3) := by rw [if_pos rfl] at H; exact H
    clear H; have H := H1; clear H1
    replace H := Option.bind_eq_some_iff.mp H
    obtain ⟨t105, A110, H⟩ := H
    replace H : (spec_GraphOr.j0 k a1 a2 (!t105) a0_0 l0_1) = some (r1, r2, r3) := H
    have A11 := Aside0.mk A110; clear A110
    have H' := Aside0.mk H
    clear H; have hnb12 := NB101_102.out; have hnc12 := NB102_101.out; have hcz13_0 : w6.cell? ⟨gb101, 0, none⟩ = some (.int .i64 a0_0) := (blk_cell BK101.out 0).trans rfl; have hcz13_1 : w6.cell? ⟨gb101, 1, none⟩ = some (.slice A0_1 l0_1.length c0_1) := (blk_cell BK101.out 1).trans rfl; have hfz13_0 := blk_frozen BK101.out 0; have hfz13_1 := blk_frozen BK101.out 1
    go_wp2_with (first | ((with_reducible refine gate_callee (f := 16) rfl ?_); refine goesL_ (some 11) rfl rfl Try.func16 (by kernel_rfl) rfl #[.agg #[.int .i64 a0_0, .slice A0_1 l0_1.length c0_1]] rfl (by (try simp only [List.map_toArray, List.map_cons, List.map_nil]); first | done | rfl | (simp only [List.length_drop, List.length_take]; rfl)) ?_; (with_reducible refine (spec_GraphOk.calls k a0_0 _ _ l0_1 true _ ?side1 ?side2 A7.out).mono ?_); (case side1 => repeat (first | exact (Kd.C_below HR0_1.out HB.out) | (with_reducible refine Kd.C_alloc ?_ _) | (with_reducible refine Kd.C_drewN ?_ _) | (with_reducible refine Kd.C_drew ?_))); (case side2 => exact HC0_1.out); rintro e w14 ⟨rfl, hb⟩; refine ⟨_, rfl, ?_⟩; have n0_ := bb BK101 hb; have n1_ := bb BK102 hb; have n2_ := bs2 HB hb GE101 GE102; clear BK101; clear BK102; clear HB; have BK101 := n0_; have BK102 := n1_; have HB := n2_; clear n0_ n1_ n2_; (try clear hb); (try clear hb2); (try clear hk); (try clear hi); have hcz15_0 : w14.cell? ⟨gb101, 0, none⟩ = some (.int .i64 a0_0) := (blk_cell BK101.out 0).trans rfl; have hcz15_1 : w14.cell? ⟨gb101, 1, none⟩ = some (.slice A0_1 l0_1.length c0_1) := (blk_cell BK101.out 1).trans rfl; have hfz15_0 := blk_frozen BK101.out 0; have hfz15_1 := blk_frozen BK101.out 1) | (go_at_call 62; (try simp only [i64_w, i32_w]); (with_reducible refine (spec_l07Wire.calls a0_0 _ _ l0_1 a1 true _ ?side1 ?side2 A9.out).mono ?_); (case side1 => repeat (first | exact (Kd.C_below HR0_1.out HB.out) | (with_reducible refine Kd.C_alloc ?_ _) | (with_reducible refine Kd.C_drewN ?_ _) | (with_reducible refine Kd.C_drew ?_))); (case side2 => exact HC0_1.out); rintro e w16 ⟨rfl, hb⟩; have n0_ := bb BK101 hb; have n1_ := bb BK102 hb; have n2_ := bs2 HB hb GE101 GE102; clear BK101; clear BK102; clear HB; have BK101 := n0_; have BK102 := n1_; have HB := n2_; clear n0_ n1_ n2_; (try clear hb); (try clear hb2); (try clear hk); (try clear hi); have hcz17_0 : w16.cell? ⟨gb101, 0, none⟩ = some (.int .i64 a0_0) := (blk_cell BK101.out 0).trans rfl; have hcz17_1 : w16.cell? ⟨gb101, 1, none⟩ = some (.slice A0_1 l0_1.length c0_1) := (blk_cell BK101.out 1).trans rfl; have hfz17_0 := blk_frozen BK101.out 0; have hfz17_1 := blk_frozen BK101.out 1) | (go_at_call 62; (try simp only [i64_w, i32_w]); (with_reducible refine (spec_l07Wire.calls a0_0 _ _ l0_1 a2 t105 _ ?side1 ?side2 A11.out).mono ?_); (case side1 => repeat (first | exact (Kd.C_below HR0_1.out HB.out) | (with_reducible refine Kd.C_alloc ?_ _) | (with_reducible refine Kd.C_drewN ?_ _) | (with_reducible refine Kd.C_drew ?_))); (case side2 => exact HC0_1.out); rintro e w18 ⟨rfl, hb⟩; have n0_ := bb BK101 hb; have n1_ := bb BK102 hb; have n2_ := bs2 HB hb GE101 GE102; clear BK101; clear BK102; clear HB; have BK101 := n0_; have BK102 := n1_; have HB := n2_; clear n0_ n1_ n2_; (try clear hb); (try clear hb2); (try clear hk); (try clear hi)))
    go_meet
    case rel => exact ⟨_, (!t105), (by first | rfl | (simp; done) | (simp [*]; done)), H', ⟨by first | omega | exact Nat.le_refl _⟩, ⟨by (with_reducible repeat (first | refine blk_drewN ?_ _ | refine blk_drew ?_ | refine blk_alloc ?_ _)); exact BK101.out⟩, ⟨by (with_reducible repeat (first | refine blk_drewN ?_ _ | refine blk_drew ?_ | refine blk_alloc ?_ _)); exact BK102.out⟩, ⟨by repeat (first | (with_reducible first | exact HB.out | apply below_alloc | apply pw_below_drewN | apply below_drew1 | refine below_set ?_ GE101.out | refine below_set ?_ GE102.out) | exact HB.out)⟩⟩
   ·replace c10 := Bool.eq_false_iff.mpr c10
    subst c10
    have H1 : (spec_GraphOr.j0 k a1 a2 true a0_0 l0_1) = some (r1, r2, r3) := by rw [if_neg (show ¬ (false = true) by decide)] at H; exact H
    clear H; have H := H1; clear H1
    have H' := Aside0.mk H
    clear H; have hnb19 := NB101_102.out; have hnc19 := NB102_101.out; have hcz20_0 : w6.cell? ⟨gb101, 0, none⟩ = some (.int .i64 a0_0) := (blk_cell BK101.out 0).trans rfl; have hcz20_1 : w6.cell? ⟨gb101, 1, none⟩ = some (.slice A0_1 l0_1.length c0_1) := (blk_cell BK101.out 1).trans rfl; have hfz20_0 := blk_frozen BK101.out 0; have hfz20_1 := blk_frozen BK101.out 1
    go_wp2_with (first | ((with_reducible refine gate_callee (f := 16) rfl ?_); refine goesL_ (some 11) rfl rfl Try.func16 (by kernel_rfl) rfl #[.agg #[.int .i64 a0_0, .slice A0_1 l0_1.length c0_1]] rfl (by (try simp only [List.map_toArray, List.map_cons, List.map_nil]); first | done | rfl | (simp only [List.length_drop, List.length_take]; rfl)) ?_; (with_reducible refine (spec_GraphOk.calls k a0_0 _ _ l0_1 true _ ?side1 ?side2 A7.out).mono ?_); (case side1 => repeat (first | exact (Kd.C_below HR0_1.out HB.out) | (with_reducible refine Kd.C_alloc ?_ _) | (with_reducible refine Kd.C_drewN ?_ _) | (with_reducible refine Kd.C_drew ?_))); (case side2 => exact HC0_1.out); rintro e w21 ⟨rfl, hb⟩; refine ⟨_, rfl, ?_⟩; have n0_ := bb BK101 hb; have n1_ := bb BK102 hb; have n2_ := bs2 HB hb GE101 GE102; clear BK101; clear BK102; clear HB; have BK101 := n0_; have BK102 := n1_; have HB := n2_; clear n0_ n1_ n2_; (try clear hb); (try clear hb2); (try clear hk); (try clear hi); have hcz22_0 : w21.cell? ⟨gb101, 0, none⟩ = some (.int .i64 a0_0) := (blk_cell BK101.out 0).trans rfl; have hcz22_1 : w21.cell? ⟨gb101, 1, none⟩ = some (.slice A0_1 l0_1.length c0_1) := (blk_cell BK101.out 1).trans rfl; have hfz22_0 := blk_frozen BK101.out 0; have hfz22_1 := blk_frozen BK101.out 1) | (go_at_call 62; (try simp only [i64_w, i32_w]); (with_reducible refine (spec_l07Wire.calls a0_0 _ _ l0_1 a1 false _ ?side1 ?side2 A9.out).mono ?_); (case side1 => repeat (first | exact (Kd.C_below HR0_1.out HB.out) | (with_reducible refine Kd.C_alloc ?_ _) | (with_reducible refine Kd.C_drewN ?_ _) | (with_reducible refine Kd.C_drew ?_))); (case side2 => exact HC0_1.out); rintro e w23 ⟨rfl, hb⟩; have n0_ := bb BK101 hb; have n1_ := bb BK102 hb; have n2_ := bs2 HB hb GE101 GE102; clear BK101; clear BK102; clear HB; have BK101 := n0_; have BK102 := n1_; have HB := n2_; clear n0_ n1_ n2_; (try clear hb); (try clear hb2); (try clear hk); (try clear hi)))
    go_meet
    case rel => exact ⟨_, (true), (by first | rfl | (simp; done) | (simp [*]; done)), H', ⟨by first | omega | exact Nat.le_refl _⟩, ⟨by (with_reducible repeat (first | refine blk_drewN ?_ _ | refine blk_drew ?_ | refine blk_alloc ?_ _)); exact BK101.out⟩, ⟨by (with_reducible repeat (first | refine blk_drewN ?_ _ | refine blk_drew ?_ | refine blk_alloc ?_ _)); exact BK102.out⟩, ⟨by repeat (first | (with_reducible first | exact HB.out | apply below_alloc | apply pw_below_drewN | apply below_drew1 | refine below_set ?_ GE101.out | refine below_set ?_ GE102.out) | exact HB.out)⟩⟩
  ·replace c8 := Bool.eq_false_iff.mpr c8
   subst c8
   have H1 : (spec_GraphOr.j0 k a1 a2 true a0_0 l0_1) = some (r1, r2, r3) := by rw [if_neg (show ¬ (false = true) by decide)] at H; exact H
   clear H; have H := H1; clear H1
   have H' := Aside0.mk H
   clear H; have hnb24 := NB101_102.out; have hnc24 := NB102_101.out; have hcz25_0 : w6.cell? ⟨gb101, 0, none⟩ = some (.int .i64 a0_0) := (blk_cell BK101.out 0).trans rfl; have hcz25_1 : w6.cell? ⟨gb101, 1, none⟩ = some (.slice A0_1 l0_1.length c0_1) := (blk_cell BK101.out 1).trans rfl; have hfz25_0 := blk_frozen BK101.out 0; have hfz25_1 := blk_frozen BK101.out 1
   go_wp2_with (first | ((with_reducible refine gate_callee (f := 16) rfl ?_); refine goesL_ (some 11) rfl rfl Try.func16 (by kernel_rfl) rfl #[.agg #[.int .i64 a0_0, .slice A0_1 l0_1.length c0_1]] rfl (by (try simp only [List.map_toArray, List.map_cons, List.map_nil]); first | done | rfl | (simp only [List.length_drop, List.length_take]; rfl)) ?_; (with_reducible refine (spec_GraphOk.calls k a0_0 _ _ l0_1 false _ ?side1 ?side2 A7.out).mono ?_); (case side1 => repeat (first | exact (Kd.C_below HR0_1.out HB.out) | (with_reducible refine Kd.C_alloc ?_ _) | (with_reducible refine Kd.C_drewN ?_ _) | (with_reducible refine Kd.C_drew ?_))); (case side2 => exact HC0_1.out); rintro e w26 ⟨rfl, hb⟩; refine ⟨_, rfl, ?_⟩; have n0_ := bb BK101 hb; have n1_ := bb BK102 hb; have n2_ := bs2 HB hb GE101 GE102; clear BK101; clear BK102; clear HB; have BK101 := n0_; have BK102 := n1_; have HB := n2_; clear n0_ n1_ n2_; (try clear hb); (try clear hb2); (try clear hk); (try clear hi)))
   go_meet
   case rel => exact ⟨_, (true), (by first | rfl | (simp; done) | (simp [*]; done)), H', ⟨by first | omega | exact Nat.le_refl _⟩, ⟨by (with_reducible repeat (first | refine blk_drewN ?_ _ | refine blk_drew ?_ | refine blk_alloc ?_ _)); exact BK101.out⟩, ⟨by (with_reducible repeat (first | refine blk_drewN ?_ _ | refine blk_drew ?_ | refine blk_alloc ?_ _)); exact BK102.out⟩, ⟨by repeat (first | (with_reducible first | exact HB.out | apply below_alloc | apply pw_below_drewN | apply below_drew1 | refine below_set ?_ GE101.out | refine below_set ?_ GE102.out) | exact HB.out)⟩⟩
 case rest =>
  clear HC4
  (try clear c1); (try clear c2); (try clear p2); (try clear c3); (try clear c8); (try clear c10); (try clear c12); (try clear c16); (try clear c19); (try clear c24); (try clear hcz13_0); (try clear hcz13_1); (try clear hcz15_0); (try clear hcz15_1); (try clear hcz17_0); (try clear hcz17_1); (try clear hcz20_0); (try clear hcz20_1); (try clear hcz22_0); (try clear hcz22_1); (try clear hcz25_0); (try clear hcz25_1); (try clear hfz13_0); (try clear hfz13_1); (try clear hfz15_0); (try clear hfz15_1); (try clear hfz17_0); (try clear hfz17_1); (try clear hfz20_0); (try clear hfz20_1); (try clear hfz22_0); (try clear hfz22_1); (try clear hfz25_0); (try clear hfz25_1)
  obtain ⟨kq, x24_3, rfl, HA, HJ3, BK101, BK102, HB⟩ := hcut
  cases kq with
    | zero => exact absurd HA.out (by simp [spec_GraphOr.j0])
    | succ kj3 =>
   have H := HA.out; clear HA
   simp only [spec_GraphOr.j0] at H
   by_cases c27 : x24_3 = true
   ·subst c27
    have H1 : ((spec_l07Copy.f a0_0 l0_1).bind fun bt106 => (some (bt106.1, bt106.2, (-1)))) = some (r1, r2, r3) := by rw [if_pos rfl] at H; exact H
    clear H; have H := H1; clear H1
    replace H := Option.bind_eq_some_iff.mp H
    obtain ⟨⟨t106, t107⟩, A280, H⟩ := H
    replace H : (some (t106, t107, (-1))) = some (r1, r2, r3) := H
    have A28 := Aside0.mk A280; clear A280
    simp only [Option.some.injEq, Prod.mk.injEq] at H
    obtain ⟨rfl, rfl, rfl⟩ := H
    have hnb29 := NB101_102.out; have hnc29 := NB102_101.out; have hcz30_0 : wc.cell? ⟨gb101, 0, none⟩ = some (.int .i64 a0_0) := (blk_cell BK101.out 0).trans rfl; have hcz30_1 : wc.cell? ⟨gb101, 1, none⟩ = some (.slice A0_1 l0_1.length c0_1) := (blk_cell BK101.out 1).trans rfl; have hfz30_0 := blk_frozen BK101.out 0; have hfz30_1 := blk_frozen BK101.out 1
    go_wp2_with (first | ((with_reducible refine gate_callee (f := 70) rfl ?_); refine goesL_ (some 26) rfl rfl Try.func70 (by kernel_rfl) rfl #[.agg #[.int .i64 a0_0, .slice A0_1 l0_1.length c0_1]] rfl (by (try simp only [List.map_toArray, List.map_cons, List.map_nil]); first | done | rfl | (simp only [List.length_drop, List.length_take]; rfl)) ?_; (with_reducible refine (spec_l07Copy.calls a0_0 _ _ l0_1 t106 t107 _ ?side1 ?side2 A28.out).mono ?_); (case side1 => repeat (first | exact (Kd.C_below HR0_1.out HB.out) | (with_reducible refine Kd.C_alloc ?_ _) | (with_reducible refine Kd.C_drewN ?_ _) | (with_reducible refine Kd.C_drew ?_))); (case side2 => exact HC0_1.out); rintro e w31 ⟨v108, rfl, ho0, hb⟩; refine ⟨_, rfl, ?_⟩; have n0_ := Aside0.mk (Kd.R_lower ho0 (below_size (by repeat (first | (with_reducible first | exact HB.out | apply below_alloc | apply pw_below_drewN | apply below_drew1 | refine below_set ?_ GE101.out | refine below_set ?_ GE102.out) | exact HB.out)))); have n1_ := bb BK101 hb; have n2_ := bb BK102 hb; have n3_ := bs2 HB hb GE101 GE102; clear BK101; clear BK102; clear HB; have HO109 := n0_; have BK101 := n1_; have BK102 := n2_; have HB := n3_; clear n0_ n1_ n2_ n3_; (try clear hb); (try clear hb2); (try clear hk); (try clear hi); (try clear ho0); have hcz32_0 : w31.cell? ⟨gb102, 0, none⟩ = some (.int .i64 0) := (blk_cell BK102.out 0).trans rfl; have hcz32_1 : w31.cell? ⟨gb102, 1, none⟩ = some (.slice none 0 0) := (blk_cell BK102.out 1).trans rfl; have hfz32_0 := blk_frozen BK102.out 0; have hfz32_1 := blk_frozen BK102.out 1; obtain ⟨Ao33, co33, eo33⟩ := Kd.R_slice HO109.out; subst eo33))
    refine bodyPost_ret (results_ct rfl _ _ gb102 29 #[.int .i64 t106, .slice Ao33 t107.length co33] (0, 0) _ rfl (by (with_reducible repeat (first | refine blk_drewN ?_ _ | refine blk_drew ?_ | refine blk_alloc ?_ _)); exact bp2 BK102.out) Try.underlying29 rfl (by kernel_rfl)) rfl ?_
    exact ⟨_, by first | rfl | (simp [errW_none, errW_some] <;> rfl) | (simp [*, errW_none, errW_some] <;> rfl), by (with_reducible repeat (first | apply Kd.R_alloc | apply Kd.R_drewN | apply Kd.R_drew)); exact Kd.R_mono (Kd.R_far (p := ⟨gb102, 1, none⟩) (Kd.R_far (p := ⟨gb102, 0, none⟩) (Kd.R_types HO109.out BK102.out (by decide)) (fun _ hk => hk.2) (.int .i64 t106)) (fun _ hk => hk.2) (.slice Ao33 t107.length co33)) (fun _ hk => trivial), by repeat (first | (with_reducible first | exact HB.out | apply below_alloc | apply pw_below_drewN | apply below_drew1 | refine below_set ?_ GE101.out | refine below_set ?_ GE102.out) | exact HB.out)⟩
   ·replace c27 := Bool.eq_false_iff.mpr c27
    subst c27
    have H1 : ((spec_l07Copy.f a0_0 l0_1).bind fun bt110 => ((spec_l07Or.f kj3 bt110.1 bt110.2 a1 a2).bind fun bt114 => (if bt114.2.2 < 0 then ((spec_l07Copy.f a0_0 l0_1).bind fun bt120 => (some (bt120.1, bt120.2, (-1)))) else (some (bt114.1, bt114.2.1, bt114.2.2))))) = some (r1, r2, r3) := by rw [if_neg (show ¬ (false = true) by decide)] at H; exact H
    clear H; have H := H1; clear H1
    replace H := Option.bind_eq_some_iff.mp H
    obtain ⟨⟨t110, t111⟩, A340, H⟩ := H
    replace H : ((spec_l07Or.f kj3 t110 t111 a1 a2).bind fun bt114 => (if bt114.2.2 < 0 then ((spec_l07Copy.f a0_0 l0_1).bind fun bt120 => (some (bt120.1, bt120.2, (-1)))) else (some (bt114.1, bt114.2.1, bt114.2.2)))) = some (r1, r2, r3) := H
    have A34 := Aside0.mk A340; clear A340
    replace H := Option.bind_eq_some_iff.mp H
    obtain ⟨⟨t114, t115, t118⟩, A350, H⟩ := H
    replace H : (if t118 < 0 then ((spec_l07Copy.f a0_0 l0_1).bind fun bt120 => (some (bt120.1, bt120.2, (-1)))) else (some (t114, t115, t118))) = some (r1, r2, r3) := H
    have A35 := Aside0.mk A350; clear A350
    by_cases c36 : t118 < 0
    ·rw [if_pos c36] at H
     have c36b0 : decide (t118 < 0) = true := decide_eq_true c36; clear c36
     replace H := Option.bind_eq_some_iff.mp H
     obtain ⟨⟨t120, t121⟩, A370, H⟩ := H
     replace H : (some (t120, t121, (-1))) = some (r1, r2, r3) := H
     have A37 := Aside0.mk A370; clear A370
     simp only [Option.some.injEq, Prod.mk.injEq] at H
     obtain ⟨rfl, rfl, rfl⟩ := H
     have hnb38 := NB101_102.out; have hnc38 := NB102_101.out; have hcz39_0 : wc.cell? ⟨gb101, 0, none⟩ = some (.int .i64 a0_0) := (blk_cell BK101.out 0).trans rfl; have hcz39_1 : wc.cell? ⟨gb101, 1, none⟩ = some (.slice A0_1 l0_1.length c0_1) := (blk_cell BK101.out 1).trans rfl; have hfz39_0 := blk_frozen BK101.out 0; have hfz39_1 := blk_frozen BK101.out 1
     go_wp2_with (first | ((with_reducible refine gate_callee (f := 70) rfl ?_); refine goesL_ (some 29) rfl rfl Try.func70 (by kernel_rfl) rfl #[.agg #[.int .i64 a0_0, .slice A0_1 l0_1.length c0_1]] rfl (by (try simp only [List.map_toArray, List.map_cons, List.map_nil]); first | done | rfl | (simp only [List.length_drop, List.length_take]; rfl)) ?_; (with_reducible refine (spec_l07Copy.calls a0_0 _ _ l0_1 t110 t111 _ ?side1 ?side2 A34.out).mono ?_); (case side1 => repeat (first | exact (Kd.C_below HR0_1.out HB.out) | (with_reducible refine Kd.C_alloc ?_ _) | (with_reducible refine Kd.C_drewN ?_ _) | (with_reducible refine Kd.C_drew ?_))); (case side2 => exact HC0_1.out); rintro e w40 ⟨v112, rfl, ho0, hb⟩; refine ⟨_, rfl, ?_⟩; have n0_ := Aside0.mk (Kd.R_lower ho0 (below_size (by repeat (first | (with_reducible first | exact HB.out | apply below_alloc | apply pw_below_drewN | apply below_drew1 | refine below_set ?_ GE101.out | refine below_set ?_ GE102.out) | exact HB.out)))); have n1_ := bb BK101 hb; have n2_ := bb BK102 hb; have n3_ := bs2 HB hb GE101 GE102; clear BK101; clear BK102; clear HB; have HO113 := n0_; have BK101 := n1_; have BK102 := n2_; have HB := n3_; clear n0_ n1_ n2_ n3_; (try clear hb); (try clear hb2); (try clear hk); (try clear hi); (try clear ho0); obtain ⟨Ao41, co41, eo41⟩ := Kd.R_slice HO113.out; subst eo41) | ((with_reducible refine gate_callee (f := 77) rfl ?_); refine goesL_ (some 32) rfl rfl Try.func77 (by kernel_rfl) rfl #[.agg #[.int .i64 t110, .slice Ao41 t111.length co41], .int .i64 a1, .int .i64 a2] rfl (by (try simp only [List.map_toArray, List.map_cons, List.map_nil]); first | done | rfl | (simp only [List.length_drop, List.length_take]; rfl)) ?_; (with_reducible refine (spec_l07Or.calls kj3 t110 (fun k_ => some k_ = (.slice Ao41 t111.length co41 : Value).ownBlock) (.slice Ao41 t111.length co41) t111 a1 a2 t114 t115 t118 w _ ?side1 ?side2 A35.out).mono ?_); (case side1 => repeat (first | (with_reducible first | exact HB.out | apply below_alloc | apply pw_below_drewN | apply below_drew1 | refine below_set ?_ GE101.out | refine below_set ?_ GE102.out) | exact HB.out)); (case side2 => exact Kd.R_tight rfl HO113.out); rintro e w42 ⟨v116, rfl, ho0, hb, hkp⟩; refine ⟨_, rfl, ?_⟩; have n0_ := Aside0.mk (blk_kept (dr BK101) hkp (fun hs_ => (fun e_ => (Kd.R_ne HO113.out BK101.out (by decide)) e_) hs_)); have n1_ := Aside0.mk (blk_kept (dr BK102) hkp (fun hs_ => (fun e_ => (Kd.R_ne HO113.out BK102.out (by decide)) e_) hs_)); have n2_ := Aside0.mk (Kd.R_mono (ok' := fun k_ => True) ho0 (fun k_ hk_ => trivial)); have n3_ := Aside0.mk (hb); clear BK101; clear BK102; clear HB; clear HO113; have BK101 := n0_; have BK102 := n1_; have HO117 := n2_; have HB := n3_; clear n0_ n1_ n2_ n3_; (try clear hb); (try clear hkp); (try clear ho0)) | ((with_reducible refine gate_dst (N := 8) rfl ?_); refine box_event ?hg (N := 8) ?hd (cs := #[.int .i64 0, .slice none 0 0]) (t := 29) ?hr ?_; (case hd => rfl); (case hg => rfl); (case hr => first | (go_simp; done) | (go_simp; rfl)); intro gb119 hg w43 hbox hb; have n0_ := rb HO117 hb; have n1_ := bb BK101 hb; have n2_ := bb BK102 hb; have n3_ := bs2 HB hb GE101 GE102; have n4_ := Aside0.mk (hbox); have n5_ := bz2 hg HB GE101 GE102; have n6_ := bz2 hg HB GE101 GE102; have n7_ := nl hg BK101; have n8_ := ng hg BK101; have n9_ := nl hg BK102; have n10_ := ng hg BK102; clear HO117; clear BK101; clear BK102; clear HB; have HO117 := n0_; have BK101 := n1_; have BK102 := n2_; have HB := n3_; have BK119 := n4_; have GW119 := n5_; have GE119 := n6_; have NB101_119 := n7_; have NB119_101 := n8_; have NB102_119 := n9_; have NB119_102 := n10_; clear n0_ n1_ n2_ n3_ n4_ n5_ n6_ n7_ n8_ n9_ n10_; clear hb hbox hg; have hnb44 := NB119_101.out; have hnc44 := NB101_119.out; have hnb45 := NB119_102.out; have hnc45 := NB102_119.out; have hcz46_0 : w43.cell? ⟨gb119, 0, none⟩ = some (.int .i64 0) := (blk_cell BK119.out 0).trans rfl; have hcz46_1 : w43.cell? ⟨gb119, 1, none⟩ = some (.slice none 0 0) := (blk_cell BK119.out 1).trans rfl; have hfz46_0 := blk_frozen BK119.out 0; have hfz46_1 := blk_frozen BK119.out 1; obtain ⟨Ao47, co47, eo47⟩ := Kd.R_slice HO117.out; subst eo47; have hcz48_0 : w43.cell? ⟨gb101, 0, none⟩ = some (.int .i64 a0_0) := (blk_cell BK101.out 0).trans rfl; have hcz48_1 : w43.cell? ⟨gb101, 1, none⟩ = some (.slice A0_1 l0_1.length c0_1) := (blk_cell BK101.out 1).trans rfl; have hfz48_0 := blk_frozen BK101.out 0; have hfz48_1 := blk_frozen BK101.out 1) | ((with_reducible refine gate_callee (f := 70) rfl ?_); refine goesL_ (some 38) rfl rfl Try.func70 (by kernel_rfl) rfl #[.agg #[.int .i64 a0_0, .slice A0_1 l0_1.length c0_1]] rfl (by (try simp only [List.map_toArray, List.map_cons, List.map_nil]); first | done | rfl | (simp only [List.length_drop, List.length_take]; rfl)) ?_; (with_reducible refine (spec_l07Copy.calls a0_0 _ _ l0_1 t120 t121 _ ?side1 ?side2 A37.out).mono ?_); (case side1 => exact Kd.C_below HR0_1.out (by repeat (first | (with_reducible first | exact HB.out | apply below_alloc | apply pw_below_drewN | apply below_drew1 | refine below_set ?_ GE101.out | refine below_set ?_ GE102.out | refine below_set ?_ GE119.out) | exact HB.out))); (case side2 => exact HC0_1.out); rintro e w49 ⟨v122, rfl, ho0, hb⟩; refine ⟨_, rfl, ?_⟩; have n0_ := Aside0.mk (Kd.R_elder' (by (with_reducible repeat (first | apply Kd.R_alloc | apply Kd.R_drewN | apply Kd.R_drew)); exact (rf HO117 BK119)) (Kd.R_base ho0) hb); have n1_ := Aside0.mk (Kd.R_lower (Kd.R_new' ho0 (Kd.R_lt (by (with_reducible repeat (first | apply Kd.R_alloc | apply Kd.R_drewN | apply Kd.R_drew)); exact (rf HO117 BK119)))) (below_size (by repeat (first | (with_reducible first | exact HB.out | apply below_alloc | apply pw_below_drewN | apply below_drew1 | refine below_set ?_ GE101.out | refine below_set ?_ GE102.out | refine below_set ?_ GE119.out) | exact HB.out)))); have n2_ := Aside0.mk (blk_below (dq BK101 NB101_119) hb); have n3_ := Aside0.mk (blk_below (dq BK102 NB102_119) hb); have n4_ := Aside0.mk (blk_below (g := gb119) (o := .cells #[.int .i64 t114, .slice Ao47 t115.length co47] 29 (0, 0)) (by (with_reducible repeat (first | refine blk_drewN ?_ _ | refine blk_drew ?_ | refine blk_alloc ?_ _)); exact bp2 BK119.out) hb); have n5_ := bs3 HB hb GE101 GE102 GE119; clear HO117; clear BK101; clear BK102; clear BK119; clear HB; have HO117 := n0_; have HO123 := n1_; have BK101 := n2_; have BK102 := n3_; have BK119 := n4_; have HB := n5_; clear n0_ n1_ n2_ n3_ n4_ n5_; (try clear hb); (try clear hb2); (try clear hk); (try clear hi); (try clear ho0); have hcz50_0 : w49.cell? ⟨gb102, 0, none⟩ = some (.int .i64 0) := (blk_cell BK102.out 0).trans rfl; have hcz50_1 : w49.cell? ⟨gb102, 1, none⟩ = some (.slice none 0 0) := (blk_cell BK102.out 1).trans rfl; have hfz50_0 := blk_frozen BK102.out 0; have hfz50_1 := blk_frozen BK102.out 1; obtain ⟨Ao51, co51, eo51⟩ := Kd.R_slice HO123.out; subst eo51))
     refine bodyPost_ret (results_ct rfl _ _ gb102 29 #[.int .i64 t120, .slice Ao51 t121.length co51] (0, 0) _ rfl (by (with_reducible repeat (first | refine blk_drewN ?_ _ | refine blk_drew ?_ | refine blk_alloc ?_ _)); exact bp2 BK102.out) Try.underlying29 rfl (by kernel_rfl)) rfl ?_
     exact ⟨_, by first | rfl | (simp [errW_none, errW_some] <;> rfl) | (simp [*, errW_none, errW_some] <;> rfl), by (with_reducible repeat (first | apply Kd.R_alloc | apply Kd.R_drewN | apply Kd.R_drew)); exact Kd.R_mono (Kd.R_far (p := ⟨gb102, 1, none⟩) (Kd.R_far (p := ⟨gb102, 0, none⟩) (Kd.R_types HO123.out BK102.out (by decide)) (fun _ hk => hk.2) (.int .i64 t120)) (fun _ hk => hk.2) (.slice Ao51 t121.length co51)) (fun _ hk => trivial), by repeat (first | (with_reducible first | exact HB.out | apply below_alloc | apply pw_below_drewN | apply below_drew1 | refine below_set ?_ GE101.out | refine below_set ?_ GE102.out | refine below_set ?_ GE119.out) | exact HB.out)⟩
    ·rw [if_neg c36] at H
     have c36b0 : decide (t118 < 0) = false := decide_eq_false c36; clear c36
     simp only [Option.some.injEq, Prod.mk.injEq] at H
     obtain ⟨rfl, rfl, rfl⟩ := H
     have hnb52 := NB101_102.out; have hnc52 := NB102_101.out; have hcz53_0 : wc.cell? ⟨gb101, 0, none⟩ = some (.int .i64 a0_0) := (blk_cell BK101.out 0).trans rfl; have hcz53_1 : wc.cell? ⟨gb101, 1, none⟩ = some (.slice A0_1 l0_1.length c0_1) := (blk_cell BK101.out 1).trans rfl; have hfz53_0 := blk_frozen BK101.out 0; have hfz53_1 := blk_frozen BK101.out 1
     go_wp2_with (first | ((with_reducible refine gate_callee (f := 70) rfl ?_); refine goesL_ (some 29) rfl rfl Try.func70 (by kernel_rfl) rfl #[.agg #[.int .i64 a0_0, .slice A0_1 l0_1.length c0_1]] rfl (by (try simp only [List.map_toArray, List.map_cons, List.map_nil]); first | done | rfl | (simp only [List.length_drop, List.length_take]; rfl)) ?_; (with_reducible refine (spec_l07Copy.calls a0_0 _ _ l0_1 t110 t111 _ ?side1 ?side2 A34.out).mono ?_); (case side1 => repeat (first | exact (Kd.C_below HR0_1.out HB.out) | (with_reducible refine Kd.C_alloc ?_ _) | (with_reducible refine Kd.C_drewN ?_ _) | (with_reducible refine Kd.C_drew ?_))); (case side2 => exact HC0_1.out); rintro e w54 ⟨v112, rfl, ho0, hb⟩; refine ⟨_, rfl, ?_⟩; have n0_ := Aside0.mk (Kd.R_lower ho0 (below_size (by repeat (first | (with_reducible first | exact HB.out | apply below_alloc | apply pw_below_drewN | apply below_drew1 | refine below_set ?_ GE101.out | refine below_set ?_ GE102.out) | exact HB.out)))); have n1_ := bb BK101 hb; have n2_ := bb BK102 hb; have n3_ := bs2 HB hb GE101 GE102; clear BK101; clear BK102; clear HB; have HO113 := n0_; have BK101 := n1_; have BK102 := n2_; have HB := n3_; clear n0_ n1_ n2_ n3_; (try clear hb); (try clear hb2); (try clear hk); (try clear hi); (try clear ho0); obtain ⟨Ao55, co55, eo55⟩ := Kd.R_slice HO113.out; subst eo55) | ((with_reducible refine gate_callee (f := 77) rfl ?_); refine goesL_ (some 32) rfl rfl Try.func77 (by kernel_rfl) rfl #[.agg #[.int .i64 t110, .slice Ao55 t111.length co55], .int .i64 a1, .int .i64 a2] rfl (by (try simp only [List.map_toArray, List.map_cons, List.map_nil]); first | done | rfl | (simp only [List.length_drop, List.length_take]; rfl)) ?_; (with_reducible refine (spec_l07Or.calls kj3 t110 (fun k_ => some k_ = (.slice Ao55 t111.length co55 : Value).ownBlock) (.slice Ao55 t111.length co55) t111 a1 a2 t114 t115 t118 w _ ?side1 ?side2 A35.out).mono ?_); (case side1 => repeat (first | (with_reducible first | exact HB.out | apply below_alloc | apply pw_below_drewN | apply below_drew1 | refine below_set ?_ GE101.out | refine below_set ?_ GE102.out) | exact HB.out)); (case side2 => exact Kd.R_tight rfl HO113.out); rintro e w56 ⟨v116, rfl, ho0, hb, hkp⟩; refine ⟨_, rfl, ?_⟩; have n0_ := Aside0.mk (blk_kept (dr BK101) hkp (fun hs_ => (fun e_ => (Kd.R_ne HO113.out BK101.out (by decide)) e_) hs_)); have n1_ := Aside0.mk (blk_kept (dr BK102) hkp (fun hs_ => (fun e_ => (Kd.R_ne HO113.out BK102.out (by decide)) e_) hs_)); have n2_ := Aside0.mk (Kd.R_mono (ok' := fun k_ => True) ho0 (fun k_ hk_ => trivial)); have n3_ := Aside0.mk (hb); clear BK101; clear BK102; clear HB; clear HO113; have BK101 := n0_; have BK102 := n1_; have HO117 := n2_; have HB := n3_; clear n0_ n1_ n2_ n3_; (try clear hb); (try clear hkp); (try clear ho0)) | ((with_reducible refine gate_dst (N := 8) rfl ?_); refine box_event ?hg (N := 8) ?hd (cs := #[.int .i64 0, .slice none 0 0]) (t := 29) ?hr ?_; (case hd => rfl); (case hg => rfl); (case hr => first | (go_simp; done) | (go_simp; rfl)); intro gb119 hg w57 hbox hb; have n0_ := rb HO117 hb; have n1_ := bb BK101 hb; have n2_ := bb BK102 hb; have n3_ := bs2 HB hb GE101 GE102; have n4_ := Aside0.mk (hbox); have n5_ := bz2 hg HB GE101 GE102; have n6_ := bz2 hg HB GE101 GE102; have n7_ := nl hg BK101; have n8_ := ng hg BK101; have n9_ := nl hg BK102; have n10_ := ng hg BK102; clear HO117; clear BK101; clear BK102; clear HB; have HO117 := n0_; have BK101 := n1_; have BK102 := n2_; have HB := n3_; have BK119 := n4_; have GW119 := n5_; have GE119 := n6_; have NB101_119 := n7_; have NB119_101 := n8_; have NB102_119 := n9_; have NB119_102 := n10_; clear n0_ n1_ n2_ n3_ n4_ n5_ n6_ n7_ n8_ n9_ n10_; clear hb hbox hg; have hnb58 := NB119_101.out; have hnc58 := NB101_119.out; have hnb59 := NB119_102.out; have hnc59 := NB102_119.out; have hcz60_0 : w57.cell? ⟨gb119, 0, none⟩ = some (.int .i64 0) := (blk_cell BK119.out 0).trans rfl; have hcz60_1 : w57.cell? ⟨gb119, 1, none⟩ = some (.slice none 0 0) := (blk_cell BK119.out 1).trans rfl; have hfz60_0 := blk_frozen BK119.out 0; have hfz60_1 := blk_frozen BK119.out 1; obtain ⟨Ao61, co61, eo61⟩ := Kd.R_slice HO117.out; subst eo61; have hcz62_0 : w57.cell? ⟨gb102, 0, none⟩ = some (.int .i64 0) := (blk_cell BK102.out 0).trans rfl; have hcz62_1 : w57.cell? ⟨gb102, 1, none⟩ = some (.slice none 0 0) := (blk_cell BK102.out 1).trans rfl; have hfz62_0 := blk_frozen BK102.out 0; have hfz62_1 := blk_frozen BK102.out 1))
     refine bodyPost_ret (results_ct rfl _ _ gb102 29 #[.int .i64 t114, .slice Ao61 t115.length co61] (0, 0) _ rfl (by (with_reducible repeat (first | refine blk_drewN ?_ _ | refine blk_drew ?_ | refine blk_alloc ?_ _)); refine blk_put (cs := #[.int .i64 t114, .slice none 0 0]) ?_ 1 _ rfl; (with_reducible repeat (first | refine blk_drewN ?_ _ | refine blk_drew ?_ | refine blk_alloc ?_ _)); refine blk_put (cs := #[.int .i64 0, .slice none 0 0]) ?_ 0 _ rfl; (with_reducible repeat (first | refine blk_drewN ?_ _ | refine blk_drew ?_ | refine blk_alloc ?_ _)); refine blk_far ?_ NB102_119.out _; (with_reducible repeat (first | refine blk_drewN ?_ _ | refine blk_drew ?_ | refine blk_alloc ?_ _)); refine blk_far ?_ NB102_119.out _; (with_reducible repeat (first | refine blk_drewN ?_ _ | refine blk_drew ?_ | refine blk_alloc ?_ _)); exact BK102.out) Try.underlying29 rfl (by kernel_rfl)) rfl ?_
     exact ⟨_, by first | rfl | (simp [errW_none, errW_some] <;> rfl) | (simp [*, errW_none, errW_some] <;> rfl), by (with_reducible repeat (first | apply Kd.R_alloc | apply Kd.R_drewN | apply Kd.R_drew)); exact Kd.R_mono (Kd.R_far (p := ⟨gb102, 1, none⟩) (Kd.R_far (p := ⟨gb102, 0, none⟩) (Kd.R_far (p := ⟨gb119, 1, none⟩) (Kd.R_far (p := ⟨gb119, 0, none⟩) (Kd.R_types (Kd.R_types HO117.out BK119.out (by decide)) BK102.out (by decide)) (fun _ hk => hk.1.2) (.int .i64 t114)) (fun _ hk => hk.1.2) (.slice Ao61 t115.length co61)) (fun _ hk => hk.2) (.int .i64 t114)) (fun _ hk => hk.2) (.slice Ao61 t115.length co61)) (fun _ hk => trivial), by repeat (first | (with_reducible first | exact HB.out | apply below_alloc | apply pw_below_drewN | apply below_drew1 | refine below_set ?_ GE101.out | refine below_set ?_ GE102.out | refine below_set ?_ GE119.out) | exact HB.out)⟩

end Go.Proofs.Yteagogcpbcickaa.G
/- Marks of a graph; a graph behind a call of its builder. Conditions: each lemma's own hypotheses. -/
set_option linter.unusedSimpArgs false
set_option linter.unusedVariables false
namespace Go.Proofs.Yteagogcpbcickaa.Pure
open Go.RowKit Go.Proofs.Yteagogcpbcickaa.G Go.Proofs.Yteagogcpbcickaa.Mp Go.Proofs.YteagogcpbcickaaW.PrintWords Go.Proofs.YteagogcpbcickaaW.PrintLast Go.Proofs.YteagogcpbcickaaW.PrintMore

def markA (n : Nat) : List S79 := (List.range n).map fun i : Nat => ⟨((1 + 2 * i : Nat) : Int), ((1 + 2 * i + 1 : Nat) : Int)⟩
theorem markA_length (n : Nat) : (markA n).length = n := by simp [markA]
theorem rd_set (l : List S79) (i : Nat) (v : S79) (hi : i < l.length) : rd_T79 (l.set i v) (i : Int) = v := by
  rw [rdA_nat, getD_lt _ i _ (by simpa using hi)]
  simp
theorem markAndS_eq (l : List S79) (hl : l.length ≤ 1099511627776) : ∀ k, l.length < k → laws_markAndS.f k l 1 = some (((1 + 2 * l.length : Nat) : Int), markA l.length) := by
  intro k hk
  unfold laws_markAndS.f
  have h := rounds (fun k i => laws_markAndS.l0 k ((markA l.length).take i ++ l.drop i) ((1 + 2 * i : Nat) : Int) (i : Int)) l.length (((1 + 2 * l.length : Nat) : Int), markA l.length) ?_ ?_ k hk
  · simpa using h
  · intro k i hi
    have hlen : ((markA l.length).take i ++ l.drop i).length = l.length := by simp [markA]; omega
    simp only [laws_markAndS.l0]
    rw [if_pos (by rw [hlen]; omega), if_pos (by omega), Option.bind_some, Int.toNat_natCast, rd_set _ _ _ (by rw [hlen]; exact hi), List.set_set, w64s i (by omega), w64s (1 + 2 * i) (by omega), w64s (1 + 2 * i + 1) (by omega), set_front (markA l.length) l i _ (by simp [markA]) hi (by simp [markA, hi])]
    rfl
  · intro k
    simp only [laws_markAndS.l0]
    rw [if_neg (by simp [markA]), List.take_of_length_le (by simp [markA])]
    simp
theorem rd_markA (n i : Nat) (hi : i < n) : rd_T79 (markA n) (i : Int) = ⟨((1 + 2 * i : Nat) : Int), ((1 + 2 * i + 1 : Nat) : Int)⟩ := by
  rw [rdA_nat, getD_lt _ i _ (by rw [markA_length]; exact hi)]
  simp [markA]
theorem heldAndS_eq (n : Nat) (hn : n ≤ 1099511627776) : ∀ k, n < k → laws_heldAndS.f k (markA n) 1 = some ((1 + 2 * n : Nat) : Int) := by
  intro k hk
  unfold laws_heldAndS.f
  refine rounds (fun k i => laws_heldAndS.l0 k (markA n) ((1 + 2 * i : Nat) : Int) (i : Int)) n _ ?_ ?_ k hk
  · intro k i hi
    simp only [laws_heldAndS.l0]
    rw [if_pos (by rw [markA_length]; omega), if_pos (by omega), rd_markA n i hi, w64s i (by omega), w64s (1 + 2 * i) (by omega), w64s (1 + 2 * i + 1) (by omega)]
    simp only [if_true]
    rfl
  · intro k
    simp only [laws_heldAndS.l0]
    rw [if_neg (by rw [markA_length]; omega)]
theorem markGraph_ev (a : Int) (l : List S79) (hl : l.length ≤ 1099511627776) : Ev (fun k => laws_markGraph.f k a l 1) (((1 + 2 * l.length : Nat) : Int), markA l.length) := by
  unfold laws_markGraph.f
  exact ev_bind (ev_ge l.length (markAndS_eq l hl)) (ev_some _)
theorem heldGraph_ev (a : Int) (n : Nat) (hn : n ≤ 1099511627776) : Ev (fun k => laws_heldGraph.f k a (markA n) 1) ((1 + 2 * n : Nat) : Int) := by
  unfold laws_heldGraph.f
  refine ev_bind (ev_ge n (heldAndS_eq n hn)) ?_
  rw [if_neg (by omega)]
  exact ev_some _
theorem copy_eq (ins : Int) (L : List S79) (hL : L.length ≤ 1099511627776) : spec_l07Copy.f ins L = some (ins, L) := by
  unfold spec_l07Copy.f
  rw [Option.bind_some, if_pos (by simp; omega), List.nil_append]
theorem wire_eq {ins : Int} {L : List S79} (hin : 0 ≤ ins ∧ ins ≤ 1000) (hL : L.length ≤ 3000) (x : Int) : spec_l07Wire.f ins L x = some (isW ins L x) := by
  unfold spec_l07Wire.f spec_l01In.f isW
  rw [w64 (n := ins + (L.length : Int)) (by omega) (by omega), w64 (n := 2 * (ins + (L.length : Int))) (by omega) (by omega), w64 (by omega) (by omega)]
  by_cases h : x ≥ 0
  · rw [if_pos h, Option.bind_some]
    congr 1
    exact decide_eq_decide.2 (by omega)
  · rw [if_neg h, Option.bind_some]
    congr 1
    exact (decide_eq_false (by omega)).symm
theorem isW_bd' {ins : Int} {L : List S79} {x : Int} (h : isW ins L x = true) (hin : 0 ≤ ins ∧ ins ≤ 1000) (hL : L.length ≤ 3000) : 0 ≤ x ∧ x ≤ 1048575 := isW_bd h hin hL
theorem all_rd (ins : Int) (L : List S79) (ws : List Int) : (∀ i : Nat, i < ws.length → isW ins L (rd ws (i : Int)) = true) ↔ ∀ x ∈ ws, isW ins L x = true := by
  constructor
  · intro h x hx
    obtain ⟨i, hi, rfl⟩ := List.mem_iff_getElem.1 hx
    have := h i hi
    rwa [rd_nat, getD_lt ws i _ hi] at this
  · intro h i hi
    rw [rd_nat, getD_lt ws i _ hi]
    exact h _ (List.getElem_mem hi)
theorem grownR_no {ins : Int} {L : List S79} {ws : List Int} (F : List S79 × Int) (h : ¬ (GOk ins L ∧ ∀ x ∈ ws, isW ins L x = true)) : grownR ins L ws F = (L, -1) := by
  unfold grownR
  rw [if_neg (fun hh => h ⟨hh.1, (all_rd ins L ws).1 hh.2⟩)]
theorem grownR_ok {ins : Int} {L : List S79} {ws : List Int} (F : List S79 × Int) (h : GOk ins L) (h2 : ∀ x ∈ ws, isW ins L x = true) : grownR ins L ws F = if F.2 < 0 then (L, -1) else F := by
  unfold grownR
  rw [if_pos ⟨h, (all_rd ins L ws).2 h2⟩]
theorem spec_or_ev {ins : Int} {L : List S79} (hin : 0 ≤ ins ∧ ins ≤ 1000) (hL : L.length ≤ 3000) (hD : Dist L) {x y : Int} (hx : 0 ≤ x ∧ x ≤ 1048575) (hy : 0 ≤ y ∧ y ≤ 1048575) :
    Ev (fun k => spec_l07Or.f k ins L x y) (ins, (orR ins L x y).1, (orR ins L x y).2) := by
  unfold spec_l07Or.f spec_l07Turn.f
  simp only [Option.bind_some]
  refine ev_bind (spec_and_ev hin hL hD (turn_bd hx) (turn_bd hy)) ?_
  unfold orR
  by_cases h : (andR ins L (Go.bits .xor .i64 x 1) (Go.bits .xor .i64 y 1)).2 < 0
  · simp only [if_pos h]; exact ev_some _
  · simp only [if_neg h, Option.bind_some]; exact ev_some _
theorem spec_if_ev {ins : Int} {L : List S79} (hin : 0 ≤ ins ∧ ins ≤ 1000) (hL : L.length ≤ 3000) (hD : Dist L) {x p q : Int} (hx : 0 ≤ x ∧ x ≤ 1048575) (hp : 0 ≤ p ∧ p ≤ 1048575) (hq : 0 ≤ q ∧ q ≤ 1048575) :
    Ev (fun k => spec_l07If.f k ins L x p q) (ins, (pickR ins L x p q).1, (pickR ins L x p q).2) := by
  have b1 := andR_bd hin hL hx hp
  have d1 := andR_dist (ins := ins) hD x p
  have b2 := andR_bd hin b1.2 (turn_bd hx) hq
  have d2 := andR_dist (ins := ins) d1 (Go.bits .xor .i64 x 1) q
  unfold spec_l07If.f spec_l07Turn.f
  refine ev_bind (spec_and_ev hin hL hD hx hp) ?_
  unfold pickR
  by_cases h : (andR ins L x p).2 < 0
  · simp only [if_pos h]; exact ev_some _
  simp only [if_neg h, Option.bind_some]
  refine ev_bind (spec_and_ev hin b1.2 d1 (turn_bd hx) hq) ?_
  by_cases h2 : (andR ins (andR ins L x p).1 (Go.bits .xor .i64 x 1) q).2 < 0
  · simp only [if_pos h2]; exact ev_some _
  simp only [if_neg h2]
  refine ev_bind (spec_or_ev hin b2.2 d2 ⟨by omega, b1.1.2⟩ ⟨by omega, b2.1.2⟩) ?_
  exact ev_some _
theorem spec_GraphAnd_ev {ins : Int} {L : List S79} (hL : WfA L) (hins : (Lit.int .i64 ins).wf = true) (hl : L.length ≤ 1099511627776) (a1 a2 : Int) :
    Ev (fun k => spec_GraphAnd.f k ins L a1 a2) (ins, (grownR ins L [a1, a2] (andR ins L a1 a2)).1, (grownR ins L [a1, a2] (andR ins L a1 a2)).2) := by
  have hj : ∀ t : Bool, t = true → ¬ (GOk ins L ∧ ∀ x ∈ [a1, a2], isW ins L x = true) → Ev (fun k => spec_GraphAnd.j0 k a1 a2 t ins L) (ins, (grownR ins L [a1, a2] (andR ins L a1 a2)).1, (grownR ins L [a1, a2] (andR ins L a1 a2)).2) := by
    rintro _ rfl h
    rw [grownR_no _ h]
    refine ev_step (f := fun _ => some (ins, L, -1)) (fun k => ?_) (ev_some _)
    simp only [spec_GraphAnd.j0, copy_eq ins L hl, Option.bind_some, if_true]
  unfold spec_GraphAnd.f
  refine ev_bind (spec_GraphOk_ev ins L hL hins) ?_
  by_cases hg : GOk ins L
  · rw [decide_eq_true hg]
    simp only [if_true, wire_eq hg.ins hg.len, Option.bind_some]
    cases h0 : isW ins L a1 with
    | false =>
      simp only [Bool.false_eq_true, if_false]
      exact hj true rfl (fun h => by have := h.2 a1 (by simp); rw [h0] at this; cases this)
    | true =>
    simp only [if_true]
    cases h1 : isW ins L a2 with
    | false => exact hj true rfl (fun h => by have := h.2 a2 (by simp); rw [h1] at this; cases this)
    | true =>
      rw [grownR_ok _ hg (fun x hx => by simp at hx; rcases hx with rfl | rfl <;> assumption)]
      refine ev_step (f := fun k => (spec_l07And.f k ins L a1 a2).bind fun bt => if bt.2.2 < 0 then some (ins, L, -1) else some (bt.1, bt.2.1, bt.2.2)) (fun k => ?_) ?_
      · simp only [spec_GraphAnd.j0, copy_eq ins L hl, Option.bind_some, Bool.not_true, Bool.false_eq_true, if_false]
      refine ev_bind (spec_and_ev hg.ins hg.len (GOk.dist hg) (isW_bd h0 hg.ins hg.len) (isW_bd h1 hg.ins hg.len)) ?_
      by_cases hn : (andR ins L a1 a2).2 < 0
      · simp only [if_pos hn]; exact ev_some _
      · simp only [if_neg hn]; exact ev_some _
  · rw [decide_eq_false hg]
    simp only [Bool.false_eq_true, if_false]
    exact hj true rfl (fun h => hg h.1)
theorem spec_GraphOr_ev {ins : Int} {L : List S79} (hL : WfA L) (hins : (Lit.int .i64 ins).wf = true) (hl : L.length ≤ 1099511627776) (a1 a2 : Int) :
    Ev (fun k => spec_GraphOr.f k ins L a1 a2) (ins, (grownR ins L [a1, a2] (orR ins L a1 a2)).1, (grownR ins L [a1, a2] (orR ins L a1 a2)).2) := by
  have hj : ∀ t : Bool, t = true → ¬ (GOk ins L ∧ ∀ x ∈ [a1, a2], isW ins L x = true) → Ev (fun k => spec_GraphOr.j0 k a1 a2 t ins L) (ins, (grownR ins L [a1, a2] (orR ins L a1 a2)).1, (grownR ins L [a1, a2] (orR ins L a1 a2)).2) := by
    rintro _ rfl h
    rw [grownR_no _ h]
    refine ev_step (f := fun _ => some (ins, L, -1)) (fun k => ?_) (ev_some _)
    simp only [spec_GraphOr.j0, copy_eq ins L hl, Option.bind_some, if_true]
  unfold spec_GraphOr.f
  refine ev_bind (spec_GraphOk_ev ins L hL hins) ?_
  by_cases hg : GOk ins L
  · rw [decide_eq_true hg]
    simp only [if_true, wire_eq hg.ins hg.len, Option.bind_some]
    cases h0 : isW ins L a1 with
    | false =>
      simp only [Bool.false_eq_true, if_false]
      exact hj true rfl (fun h => by have := h.2 a1 (by simp); rw [h0] at this; cases this)
    | true =>
    simp only [if_true]
    cases h1 : isW ins L a2 with
    | false => exact hj true rfl (fun h => by have := h.2 a2 (by simp); rw [h1] at this; cases this)
    | true =>
      rw [grownR_ok _ hg (fun x hx => by simp at hx; rcases hx with rfl | rfl <;> assumption)]
      refine ev_step (f := fun k => (spec_l07Or.f k ins L a1 a2).bind fun bt => if bt.2.2 < 0 then some (ins, L, -1) else some (bt.1, bt.2.1, bt.2.2)) (fun k => ?_) ?_
      · simp only [spec_GraphOr.j0, copy_eq ins L hl, Option.bind_some, Bool.not_true, Bool.false_eq_true, if_false]
      refine ev_bind (spec_or_ev hg.ins hg.len (GOk.dist hg) (isW_bd h0 hg.ins hg.len) (isW_bd h1 hg.ins hg.len)) ?_
      by_cases hn : (orR ins L a1 a2).2 < 0
      · simp only [if_pos hn]; exact ev_some _
      · simp only [if_neg hn]; exact ev_some _
  · rw [decide_eq_false hg]
    simp only [Bool.false_eq_true, if_false]
    exact hj true rfl (fun h => hg h.1)
theorem spec_GraphIf_ev {ins : Int} {L : List S79} (hL : WfA L) (hins : (Lit.int .i64 ins).wf = true) (hl : L.length ≤ 1099511627776) (a1 a2 a3 : Int) :
    Ev (fun k => spec_GraphIf.f k ins L a1 a2 a3) (ins, (grownR ins L [a1, a2, a3] (pickR ins L a1 a2 a3)).1, (grownR ins L [a1, a2, a3] (pickR ins L a1 a2 a3)).2) := by
  have hj : ∀ t : Bool, t = true → ¬ (GOk ins L ∧ ∀ x ∈ [a1, a2, a3], isW ins L x = true) → Ev (fun k => spec_GraphIf.j0 k a1 a2 a3 t ins L) (ins, (grownR ins L [a1, a2, a3] (pickR ins L a1 a2 a3)).1, (grownR ins L [a1, a2, a3] (pickR ins L a1 a2 a3)).2) := by
    rintro _ rfl h
    rw [grownR_no _ h]
    refine ev_step (f := fun _ => some (ins, L, -1)) (fun k => ?_) (ev_some _)
    simp only [spec_GraphIf.j0, copy_eq ins L hl, Option.bind_some, if_true]
  unfold spec_GraphIf.f
  refine ev_bind (spec_GraphOk_ev ins L hL hins) ?_
  by_cases hg : GOk ins L
  · rw [decide_eq_true hg]
    simp only [if_true, wire_eq hg.ins hg.len, Option.bind_some]
    cases h0 : isW ins L a1 with
    | false =>
      simp only [Bool.false_eq_true, if_false]
      exact hj true rfl (fun h => by have := h.2 a1 (by simp); rw [h0] at this; cases this)
    | true =>
    simp only [if_true]
    cases h1 : isW ins L a2 with
    | false =>
      simp only [Bool.false_eq_true, if_false]
      exact hj true rfl (fun h => by have := h.2 a2 (by simp); rw [h1] at this; cases this)
    | true =>
    simp only [if_true]
    cases h2 : isW ins L a3 with
    | false => exact hj true rfl (fun h => by have := h.2 a3 (by simp); rw [h2] at this; cases this)
    | true =>
      rw [grownR_ok _ hg (fun x hx => by simp at hx; rcases hx with rfl | rfl | rfl <;> assumption)]
      refine ev_step (f := fun k => (spec_l07If.f k ins L a1 a2 a3).bind fun bt => if bt.2.2 < 0 then some (ins, L, -1) else some (bt.1, bt.2.1, bt.2.2)) (fun k => ?_) ?_
      · simp only [spec_GraphIf.j0, copy_eq ins L hl, Option.bind_some, Bool.not_true, Bool.false_eq_true, if_false]
      refine ev_bind (spec_if_ev hg.ins hg.len (GOk.dist hg) (isW_bd h0 hg.ins hg.len) (isW_bd h1 hg.ins hg.len) (isW_bd h2 hg.ins hg.len)) ?_
      by_cases hn : (pickR ins L a1 a2 a3).2 < 0
      · simp only [if_pos hn]; exact ev_some _
      · simp only [if_neg hn]; exact ev_some _
  · rw [decide_eq_false hg]
    simp only [Bool.false_eq_true, if_false]
    exact hj true rfl (fun h => hg h.1)
end Go.Proofs.Yteagogcpbcickaa.Pure
/- The program's GraphIf and the reference's. Conditions: each lemma's own hypotheses. -/
set_option linter.unusedSimpArgs false
set_option linter.unusedVariables false
namespace Go.Proofs.Yteagogcpbcickaa.Pure
open Go.RowKit Go.Proofs.Yteagogcpbcickaa.G Go.Proofs.Yteagogcpbcickaa.Mp Go.Proofs.YteagogcpbcickaaW.PrintWords Go.Proofs.YteagogcpbcickaaW.PrintLast Go.Proofs.YteagogcpbcickaaW.PrintMore

theorem FnExactGraphIf_pure : ∀ (a0_0 : Int) (l0_1 : List S116) (a1 : Int) (a2 : Int) (a3 : Int), ((Lit.int .i64 a0_0).wf = true ∧ (l0_1.length ≤ maxLen ∧ ∀ x_ ∈ l0_1, ((Lit.int .i64 x_.f0).wf = true ∧ (Lit.int .i64 x_.f1).wf = true))) → (Lit.int .i64 a1).wf = true → (Lit.int .i64 a2).wf = true → (Lit.int .i64 a3).wf = true → ∃ k, laws_FnExactGraphIf.f k a0_0 l0_1 a1 a2 a3 = some true := by
  intro a0_0 l0_1 a1 a2 a3 ⟨hins, hl, hw⟩ _ _ _
  unfold laws_FnExactGraphIf.f
  rw [szGraph_eq a0_0 l0_1 hl]
  simp only [Option.bind_some]
  by_cases h : (l0_1.length : Int) > 1048576
  · rw [if_pos h]; exact ⟨0, if_pos (by decide)⟩
  rw [if_neg h]
  simp only [if_neg (show ¬ 1048576 - (l0_1.length : Int) < 0 by omega)]
  have hlen : (cvA l0_1).length = l0_1.length := cvA_length l0_1
  have hs := spec_GraphIf_ev (cvA_wf hw) hins (by omega) a1 a2 a3
  have hi : impl_GraphIf.f a0_0 (cvA l0_1) a1 a2 a3 = some (a0_0, (grownR a0_0 (cvA l0_1) [a1, a2, a3] (pickR a0_0 (cvA l0_1) a1 a2 a3)).1, (grownR a0_0 (cvA l0_1) [a1, a2, a3] (pickR a0_0 (cvA l0_1) a1 a2 a3)).2) := by unfold impl_GraphIf.f; rw [if_pos (by omega)]
  have hb : (grownR a0_0 (cvA l0_1) [a1, a2, a3] (pickR a0_0 (cvA l0_1) a1 a2 a3)).1.length ≤ 1048577 := by
    unfold grownR
    split
    · rename_i hg
      split
      · show (cvA l0_1).length ≤ _; omega
      · have := (pickR_bd hg.1.ins hg.1.len (isW_bd ((all_rd _ _ _).1 hg.2 a1 (by simp)) hg.1.ins hg.1.len) (isW_bd ((all_rd _ _ _).1 hg.2 a2 (by simp)) hg.1.ins hg.1.len) (isW_bd ((all_rd _ _ _).1 hg.2 a3 (by simp)) hg.1.ins hg.1.len)).2; omega
    · show (cvA l0_1).length ≤ _; omega
  generalize (grownR a0_0 (cvA l0_1) [a1, a2, a3] (pickR a0_0 (cvA l0_1) a1 a2 a3)) = r at hs hi hb
  obtain ⟨R, v⟩ := r
  dsimp only at hs hi hb
  have ht := ev_ge _ (toGraph_eq a0_0 l0_1 (by omega))
  have hI : Ev (fun _ : Nat => impl_GraphIf.f a0_0 (cvA l0_1) a1 a2 a3) (a0_0, R, v) := ev_ge 0 (fun _ _ => hi)
  have he := ev_ge _ (eqGraph_self a0_0 R (by omega))
  have he0 := ev_ge _ (eqGraph_self a0_0 (cvA l0_1) (by omega))
  have hm := markGraph_ev a0_0 R (by omega)
  have hm0 := markGraph_ev a0_0 (cvA l0_1) (by omega)
  have hh := heldGraph_ev a0_0 R.length (by omega)
  refine ev_rounds (ev_bind ht (ev_bind hs (ev_bind ht (ev_bind hI (ev_bind he ?_)))))
  simp only [if_true, bne_self_eq_false]
  refine ev_step (fun k => by simp only [laws_FnExactGraphIf.j0]; rw [if_neg (by decide)]) ?_
  refine ev_bind ht (ev_bind he0 ?_)
  simp only [if_true]
  refine ev_bind hm0 ?_
  simp only [if_neg (show ¬ ((1 + 2 * (cvA l0_1).length : Nat) : Int) < 0 by omega)]
  refine ev_bind he ?_
  simp only [if_true, bne_self_eq_false]
  refine ev_step (fun k => by simp only [laws_FnExactGraphIf.j1]; rw [if_neg (by decide)]) ?_
  refine ev_bind hm (ev_bind hh ?_)
  simp only [if_neg (show ¬ ((1 + 2 * R.length : Nat) : Int) < 0 by omega), if_true]
  refine ev_bind ht (ev_bind hI (ev_bind he ?_))
  simp only [if_true, bne_self_eq_false]
  refine ev_step (fun k => by simp only [laws_FnExactGraphIf.j2]; rw [if_neg (by decide)]) ?_
  refine ev_bind hh ?_
  simp only [if_neg (show ¬ ((1 + 2 * R.length : Nat) : Int) < 0 by omega), if_true]
  exact ev_some _
end Go.Proofs.Yteagogcpbcickaa.Pure
/- What an argument of a law reads as, told by the print's kinds: a lemma for each shape of type. Conditions: none beyond the lemmas' own hypotheses. -/
namespace Go.Proofs.Yteagogcpbcickaa.Open
open Go.Deep Go.ChangeShapes Go.WideShapes Go.RowKit Go.Proofs.YteagogcpbcickaaW.PrintWords

/-- Whatever reads as data of type t reads by the kind d, and what is read is ok. -/
def Opens {α : Type} (P : Program) (t : TypeId) (d : Kd α) (ok : α → Prop) : Prop :=
  ∀ (H : Type) (enc : TypeId × Value → H) (w : World) (base : Nat) (spare : Nat → Bool) (held : Bool) (fuel : Nat) (cs : List Value) (x : DataW H × List MemPlace),
    DataW.trod enc P w base spare held fuel t cs = some x → ∃ a, d.K w a cs ∧ ok a

def FOpens {α : Type} (P : Program) (fs : List Field) (off : Nat) (d : Kd α) (ok : α → Prop) : Prop :=
  ∀ (H : Type) (enc : TypeId × Value → H) (w : World) (base : Nat) (spare : Nat → Bool) (held : Bool) (fuel : Nat) (cs : List Value),
    (∀ f ∈ fs, ∃ x, DataW.trod enc P w base spare held fuel f.type ((cs.drop f.offset).take (P.cellsOf f.type)) = some x) → ∃ a, d.K w a ((cs.drop off).take d.sz) ∧ ok a

theorem opens_int {P : Program} {t : TypeId} {k : IntKind} (hu : P.underlying t = some (.int k)) : Opens P t (Kd.int k) (fun a => (Lit.int k a).wf = true) := by
  intro H enc w base spare held fuel cs x h
  obtain ⟨n, rfl, _, hw⟩ := DataW.trod_int hu h
  exact ⟨n, rfl, hw⟩
theorem opens_bool {P : Program} {t : TypeId} (hu : P.underlying t = some .bool) : Opens P t Kd.bool (fun _ => True) := by
  intro H enc w base spare held fuel cs x h
  obtain ⟨n, rfl, _⟩ := DataW.trod_bool hu h
  exact ⟨n, rfl, trivial⟩
theorem opens_string {P : Program} {t : TypeId} (hu : P.underlying t = some .string) : Opens P t Kd.string (fun s => s.size ≤ maxLen) := by
  intro H enc w base spare held fuel cs x h
  obtain ⟨n, rfl, _, hw⟩ := DataW.trod_string hu h
  exact ⟨n, rfl, hw⟩
theorem list_of {α : Type} {p : Nat → α → Prop} : ∀ n, (∀ i, i < n → ∃ a, p i a) → ∃ l : List α, l.length = n ∧ ∀ i a, l[i]? = some a → p i a
  | 0, _ => ⟨[], rfl, fun i a h => by simp at h⟩
  | n + 1, h => by
    obtain ⟨l, hl, hp⟩ := list_of n (fun i hi => h i (by omega))
    obtain ⟨a, ha⟩ := h n (by omega)
    refine ⟨l ++ [a], by simp [hl], fun i b hb => ?_⟩
    rw [List.getElem?_append] at hb
    split at hb
    · exact hp i b hb
    · rename_i hi
      have e : i = n := by
        rcases Nat.lt_or_ge (i - l.length) 1 with h1 | h1
        · omega
        · rw [List.getElem?_eq_none (by simpa using h1)] at hb
          cases hb
      subst e
      rw [hl, Nat.sub_self] at hb
      cases hb
      exact ha
theorem opens_slice {α : Type} {P : Program} {t e : TypeId} {d : Kd α} {ok : α → Prop} (hu : P.underlying t = some (.slice e)) (hc : P.cellsOf e = d.sz) (h : Opens P e d ok) :
    Opens P t (Kd.slice e d) (fun l => l.length ≤ maxLen ∧ ∀ x ∈ l, ok x) := by
  intro H enc w base spare held fuel cs x hx
  rcases open_slice hu hx with ⟨rfl, rfl⟩ | ⟨a, len, cap, m, n, D, Pl, rfl, hb, hl, hm, hmm, rfl, hel⟩
  · exact ⟨[], ⟨none, 0, rfl, Nat.le_refl _, rfl, by simp, fun h => absurd h (by simp)⟩, by simp [maxLen], by simp⟩
  · have hle : len ≤ m := by rw [hmm]; split <;> omega
    have hone : ∀ i, i < len → ∃ y : α, (∃ cs', w.cells? base (a.add (i * P.cellsOf e)) (P.cellsOf e) = some cs' ∧ d.K w y cs') ∧ ok y := by
      intro i hi
      obtain ⟨cs', h1, h2⟩ := hel i (by omega)
      obtain ⟨y, hk, ho⟩ := h H enc w base spare held n cs' _ h2
      exact ⟨y, ⟨cs', h1, hk⟩, ho⟩
    obtain ⟨l, hll, hp⟩ := list_of len hone
    subst hll
    refine ⟨l, ⟨some a, cap, rfl, hl, rfl, by simp only [maxLen] at hm; omega, fun _ => ⟨a, rfl, fun j p hj => ?_⟩⟩, by omega, ?_⟩
    · obtain ⟨⟨cs', h1, hk⟩, _⟩ := hp j p hj
      refine ⟨cs', d.K_len hk, hk, fun i u hu => ?_⟩
      have hlt : i < cs'.length := by
        rcases Nat.lt_or_ge i cs'.length with h' | h'
        · exact h'
        · rw [List.getElem?_eq_none h'] at hu; cases hu
      have hlen := d.K_len hk
      obtain ⟨_, hlen2, hcell⟩ := World.cells?_some h1
      rw [hc] at hcell
      have := hcell i (by omega)
      rw [hu] at this
      rw [← Addr.add_add]
      exact this.symm ▸ rfl
    · intro x hx
      obtain ⟨i, hi, rfl⟩ := List.getElem_of_mem hx
      exact (hp i _ (List.getElem?_eq_getElem hi)).2
theorem fopens_one {α : Type} {P : Program} {f : Field} {off : Nat} {d : Kd α} {ok : α → Prop} (ho : f.offset = off) (hc : P.cellsOf f.type = d.sz) (h : Opens P f.type d ok) : FOpens P [f] off d ok := by
  intro H enc w base spare held fuel cs hx
  obtain ⟨x, hx⟩ := hx f (by simp)
  rw [ho, hc] at hx
  exact h H enc w base spare held fuel _ x hx
theorem fopens_cons {α β : Type} {P : Program} {f : Field} {fs : List Field} {off : Nat} {d : Kd α} {d' : Kd β} {ok : α → Prop} {ok' : β → Prop} (ho : f.offset = off) (hc : P.cellsOf f.type = d.sz) (h : Opens P f.type d ok)
    (hs : FOpens P fs (off + d.sz) d' ok') : FOpens P (f :: fs) off (Kd.pair d d') (fun x => ok x.1 ∧ ok' x.2) := by
  intro H enc w base spare held fuel cs hx
  obtain ⟨a, ha, hoa⟩ := fopens_one ho hc h H enc w base spare held fuel cs (fun g hg => hx g (by simp at hg; simp [hg]))
  obtain ⟨b, hb, hob⟩ := hs H enc w base spare held fuel cs (fun g hg => hx g (by simp [hg]))
  refine ⟨(a, b), ⟨_, _, ?_, ha, hb⟩, hoa, hob⟩
  show (cs.drop off).take (d.sz + d'.sz) = _
  rw [List.take_add, List.drop_drop]
theorem opens_struct {α : Type} {P : Program} {t : TypeId} {fs : Array Field} {d : Kd α} {ok : α → Prop} (hu : P.underlying t = some (.struct fs)) (hc : P.cellsOf t = d.sz) (h : FOpens P fs.toList 0 d ok) : Opens P t d ok := by
  intro H enc w base spare held fuel cs x hx
  obtain ⟨xs, n, rfl, _, hlen, hxl, hf⟩ := DataW.trod_struct hu hx
  have := h H enc w base spare held n cs (fun f hm => by
    obtain ⟨i, hi, rfl⟩ := List.getElem_of_mem hm
    have hi' : i < fs.size := by simpa using hi
    have e := hf i fs[i] (Array.getElem?_eq_getElem hi')
    rw [List.getElem?_eq_getElem (show i < xs.length by omega)] at e
    exact ⟨_, by simpa using e⟩)
  rw [List.drop_zero, List.take_of_length_le (by omega)] at this
  exact this
theorem opens_iso {α β : Type} {P : Program} {t : TypeId} {d : Kd α} {ok : α → Prop} (f : β → α) (g : α → β) (hfg : ∀ a, f (g a) = a) (h : Opens P t d ok) : Opens P t (Kd.iso d f) (fun x => ok (f x)) := by
  intro H enc w base spare held fuel cs x hx
  obtain ⟨a, ha, ho⟩ := h H enc w base spare held fuel cs x hx
  exact ⟨g a, by show d.K w (f (g a)) cs; rw [hfg]; exact ha, by show ok (f (g a)); rw [hfg]; exact ho⟩
/-- A struct's value is its cells. -/
theorem agg_of_cells {P : Program} {w : World} {r : Reach} {base : Nat} {t : TypeId} {fs : Array Field} {v : Value} {cs : List Value} (hu : P.underlying t = some (.struct fs)) (hv : Value.okWide P w r base t v) (hc : v.cells.toList = cs) : v = .agg cs.toArray := by
  obtain ⟨c, rfl, _⟩ := okWide_struct hu hv
  simp only [Value.cells] at hc
  subst hc
  simp
end Go.Proofs.Yteagogcpbcickaa.Open
/- The statement FnExactGraphIfSaid of the law FnExactGraphIf: for every input the call returns true and its arguments read as before. Conditions: none. (Written by a program of this session: wip/gen/row.py.) -/
namespace Go.Proofs.Yteagogcpbcickaa.fnExactGraphIf
open Go.ChangeShapes Go.WideShapes Go.ChangeAt Go.RowKit Go.Proofs.Yteagogcpbcickaa.Open Go.Proofs.Yteagogcpbcickaa.G Go.Proofs.YteagogcpbcickaaW.PrintWords
open Go.ChangeMaps (open_string shut_string)
set_option linter.unusedVariables false
theorem own : ownKnob Try.prog.godebug = none := by kernel_rfl
theorem laidOut : laidOutB Try.prog = true := by kernel_rfl
set_option maxRecDepth 100000 in
theorem lifted (os : Os) (started : os.Started) (H : Type) (enc : TypeId × Value → H) :
    ReturnsInHanded {} Try.checked os 9 .any (Rows.fnExactGraphIfSpec.pre6 enc Try.prog Try.f9 Rows.fnExactGraphIfRow.domain false) (Rows.fnExactGraphIfSpec.post enc Try.prog Try.f9 false true false false) := by
  refine returnsInHanded_of_change (C := Try.checked) own started (by kernel_rfl) Try.func9
    (ChangeSpec.witness6 (enc := enc) (C := Try.checked) false ⟨#[], #[.agg #[.int .i64 0, .slice none 0 0], .int .i64 0, .int .i64 0, .int .i64 0], []⟩ 8 (by kernel_rfl) (by kernel_rfl) (by kernel_rfl) (by kernel_rfl)) ?_
  intro W base args ds gs before hval0 hW hcnd _
  have hval : ∀ (j : Nat) t v, Try.f9.params[j]? = some t → args[j]? = some v → Value.okWide Try.prog W .any base t v := hval0
  have hW' := hW
  obtain ⟨p, q, hA0, hV, rfl, hfz, hnd⟩ := hW
  have hA : DataW.TrodAll enc Try.prog W 0 (fun _ => true) true Try.f9.params.toList args.toList ds p := hA0
  rw [Try.params9] at hA hval
  obtain ⟨v0, vs0, d0, ds0, p0, q0, hargs, rfl, rfl, h0, r0⟩ := trodAll_cons hA
  obtain ⟨v1, vs1, d1, ds1, p1, q1, rfl, rfl, rfl, h1, r1⟩ := trodAll_cons r0
  obtain ⟨v2, vs2, d2, ds2, p2, q2, rfl, rfl, rfl, h2, r2⟩ := trodAll_cons r1
  obtain ⟨v3, vs3, d3, ds3, p3, q3, rfl, rfl, rfl, h3, r3⟩ := trodAll_cons r2
  obtain ⟨rfl, rfl, rfl⟩ := trodAll_nil r3
  obtain rfl : args = #[v0, v1, v2, v3] := by cases args; simp_all
  obtain ⟨rfl, rfl⟩ := trodVars_none hV
  have k0 := h0
  have lt0 : ∀ x ∈ p0, x.block < W.heap.size := by obtain ⟨m, hm⟩ := k0; exact DataW.trod_lt m _ _ _ hm
  obtain ⟨fu0, hf0⟩ := h0
  obtain ⟨⟨a0_0, l0_1⟩, hk0, ok0⟩ := (opens_struct Try.underlying24 (by kernel_rfl) (fopens_cons rfl (by kernel_rfl) (opens_int Try.underlying3) (fopens_one rfl (by kernel_rfl) (opens_slice (d := k116) Try.underlying22 (by kernel_rfl) (show Opens Try.prog 116 k116 _ from opens_iso _ (fun y => ⟨y.1, y.2⟩) (fun _ => rfl) (opens_struct Try.underlying116 (by kernel_rfl) (fopens_cons rfl (by kernel_rfl) (opens_int Try.underlying3) (fopens_one rfl (by kernel_rfl) (opens_int Try.underlying3))))))))) _ enc W 0 _ true fu0 _ _ hf0
  generalize hcs0 : v0.cells.toList = cs0 at hk0
  obtain ⟨_, _, rfl, rfl, ⟨A0_1, c0_1, rfl, hc0_1, hr0_1⟩⟩ := hk0
  obtain rfl := agg_of_cells Try.underlying24 (hval 0 24 v0 rfl rfl) hcs0
  obtain ⟨a1, rfl, rfl, rfl, ok1⟩ := open_int Try.underlying3 (hval 1 3 v1 rfl rfl) h1
  obtain ⟨a2, rfl, rfl, rfl, ok2⟩ := open_int Try.underlying3 (hval 2 3 v2 rfl rfl) h2
  obtain ⟨a3, rfl, rfl, rfl, ok3⟩ := open_int Try.underlying3 (hval 3 3 v3 rfl rfl) h3
  clear hA0 hval0
  obtain ⟨k, hk⟩ := Pure.FnExactGraphIf_pure a0_0 l0_1 a1 a2 a3 ok0 ok1 ok2 ok3
  refine (laws_FnExactGraphIf.calls k a0_0 _ _ l0_1 a1 a2 a3 true W hr0_1 hc0_1 rfl hk).mono fun e W' ⟨he, bel0⟩ => ?_
  have bel : Below W.heap.size W W' := bel0
  subst he
  exact ⟨_, rfl, _, _, _, [], _, [], hW', trodAll_mk1 (shut_bool Try.underlying4 _), (trodAll_cons_mk (Below.trod laidOut (by kernel_rfl) (of_decide_eq_true (by kernel_rfl)) k0 bel lt0) (trodAll_cons_mk (shut_int Try.underlying3 ok1) (trodAll_cons_mk (shut_int Try.underlying3 ok2) (trodAll_cons_mk (shut_int Try.underlying3 ok3) trodAll_mk0)))), rfl, bel.frame _, fun h => by cases h⟩
theorem over : Rows.fnExactGraphIfRow.holds Try.pinned (OpenSpec.ofChange Rows.fnExactGraphIfSpec) :=
  OpenClaim.holds_of_wide 9 Try.f9 rfl rfl rfl rfl rfl rfl rfl ⟨rfl, rfl, rfl, rfl, rfl⟩ rfl rfl rfl rfl rfl (by kernel_rfl) Try.func9 (by kernel_rfl)
    (of_decide_eq_true (by kernel_rfl)) (by unfold Func.isWrapper; first | (rw [if_pos (by decide +kernel)]; kernel_rfl) | (rw [if_neg (by decide +kernel)]; exact ⟨rfl, rfl⟩))
    (fun os started H enc _ => lifted os started H enc)
theorem proved : Rows.FnExactGraphIfSaid := over
end Go.Proofs.Yteagogcpbcickaa.fnExactGraphIf
namespace Go.Proofs.Yteagogcpbcickaa
/-- The given statement. -/
theorem fnExactGraphIf_holds : Rows.FnExactGraphIfSaid := fnExactGraphIf.proved
#print axioms fnExactGraphIf_holds
end Go.Proofs.Yteagogcpbcickaa
