-- texts of this session, merged by a program of it (wip/gen/pack.py)
import Derived.Test.YteagogcpbcickaaKFnExactGraphOr8
import Derived.Test.YteagogcpbcickaaKFnExactGraphOr3
import Derived.Test.YteagogcpbcickaaKFnExactGraphOr2
import Derived.Test.YteagogcpbcickaaKFnExactGraphOr5
import Derived.Test.YteagogcpbcickaaKFnExactGraphOr6
/- The builder's operations and the reference's. Conditions: each lemma's own hypotheses. -/
set_option linter.unusedSimpArgs false
set_option linter.unusedVariables false
namespace Go.Proofs.Yteagogcpbcickaa.Pure
open Go.RowKit Go.Proofs.Yteagogcpbcickaa.G Go.Proofs.Yteagogcpbcickaa.Mp Go.Proofs.YteagogcpbcickaaW.PrintWords Go.Proofs.YteagogcpbcickaaW.PrintLast Go.Proofs.YteagogcpbcickaaW.PrintMore

theorem turn_turn {x : Int} (h : 0 ≤ x ∧ x ≤ 1048575) : Go.bits .xor .i64 (Go.bits .xor .i64 x 1) 1 = x := by
  obtain ⟨n, rfl⟩ := Int.eq_ofNat_of_zero_le h.1
  have h1 := xor_nat n 1 (by omega) (by decide)
  rw [show ((1 : Nat) : Int) = 1 from rfl] at h1
  have h2 := Nat.xor_lt_two_pow (x := n) (y := 1) (n := 20) (by omega) (by decide)
  have h3 := xor_nat (n ^^^ 1) 1 (by omega) (by decide)
  rw [show ((1 : Nat) : Int) = 1 from rfl] at h3
  rw [h1, h3, Nat.xor_assoc, Nat.xor_self, Nat.xor_zero]
/-- No node stands there twice. -/
def Dist (L : List S79) : Prop := ∀ i j : Nat, i < j → j < L.length → rd_T79 L (i : Int) ≠ rd_T79 L (j : Int)
theorem GOk.dist {ins : Int} {L : List S79} (h : GOk ins L) : Dist L := by
  intro i j hij hj he
  obtain ⟨_, _, _, _, h5⟩ := h.2.2 j hj
  exact h5 ((mem_take_rd L j (by omega) _).2 ⟨i, hij, he⟩)
theorem mhas_iff {κ : Type} [DecidableEq κ] (x : κ) : ∀ l : List (κ × Int), mhas l x = true ↔ ∃ p ∈ l, p.1 = x := by
  intro l
  induction l with
  | nil => simp [mhas]
  | cons a r ih =>
    unfold mhas
    by_cases h : a.1 = x
    · rw [if_pos h]; simp [h]
    · rw [if_neg h, ih]; simp [h]
theorem mget_of {κ : Type} [DecidableEq κ] (x : κ) (v : Int) : ∀ l : List (κ × Int), (∀ q ∈ l, q.1 = x → q.2 = v) → (∃ p ∈ l, p.1 = x) → mget l x = v := by
  intro l
  induction l with
  | nil => intro _ h; obtain ⟨p, hp, _⟩ := h; cases hp
  | cons a r ih =>
    intro h1 h2
    unfold mget
    by_cases h : a.1 = x
    · rw [if_pos h]; exact h1 a (by simp) h
    · rw [if_neg h]
      refine ih (fun q hq => h1 q (by simp [hq])) ?_
      obtain ⟨p, hp, he⟩ := h2
      rcases List.mem_cons.1 hp with rfl | hp
      · exact absurd he h
      · exact ⟨p, hp, he⟩
theorem mem_at (ins : Int) (L : List S79) (p : S79 × Int) : p ∈ atMap ins L ↔ ∃ i : Nat, i < L.length ∧ p = (rd_T79 L (i : Int), 2 * (ins + 1 + (i : Int))) := by
  simp only [atMap, List.mem_reverse, List.mem_map, List.mem_range]
  constructor
  · rintro ⟨i, hi, rfl⟩; exact ⟨i, hi, rfl⟩
  · rintro ⟨i, hi, rfl⟩; exact ⟨i, hi, rfl⟩
theorem at_found {ins : Int} {L : List S79} (hD : Dist L) {i : Nat} (hi : i < L.length) {K : S79} (h : rd_T79 L (i : Int) = K) : mhas (atMap ins L) K = true ∧ mget (atMap ins L) K = 2 * (ins + 1 + (i : Int)) := by
  have hp : (K, 2 * (ins + 1 + (i : Int))) ∈ atMap ins L := (mem_at ins L _).2 ⟨i, hi, by rw [h]⟩
  refine ⟨(mhas_iff K _).2 ⟨_, hp, rfl⟩, mget_of K _ _ (fun q hq he => ?_) ⟨_, hp, rfl⟩⟩
  obtain ⟨j, hj, rfl⟩ := (mem_at ins L q).1 hq
  have : i = j := by
    rcases Nat.lt_trichotomy i j with h1 | h1 | h1
    · exact absurd (h.trans he.symm) (hD i j h1 hj)
    · exact h1
    · exact absurd (he.trans h.symm) (hD j i h1 hi)
  rw [this]
theorem at_none {ins : Int} {L : List S79} {K : S79} (h : ∀ i : Nat, i < L.length → rd_T79 L (i : Int) ≠ K) : mhas (atMap ins L) K = false := by
  rw [Bool.eq_false_iff]
  intro hm
  obtain ⟨p, hp, he⟩ := (mhas_iff K _).1 hm
  obtain ⟨i, hi, rfl⟩ := (mem_at ins L p).1 hp
  exact h i hi he
theorem Dist.app {L : List S79} {K : S79} (hD : Dist L) (h : ∀ i : Nat, i < L.length → rd_T79 L (i : Int) ≠ K) : Dist (L ++ [K]) := by
  intro i j hij hj
  rw [List.length_append, List.length_singleton] at hj
  rw [rd_app L K i (by omega)]
  by_cases hjl : j < L.length
  · rw [rd_app L K j hjl]; exact hD i j hij hjl
  · have : j = L.length := by omega
    subst this
    rw [rd_last]
    exact h i hij
theorem andR_dist {ins : Int} {L : List S79} (hD : Dist L) (x y : Int) : Dist (andR ins L x y).1 := by
  unfold andR
  split; exact hD
  split; exact hD
  split; exact hD
  split; exact hD
  split; exact hD
  split; exact hD
  split; exact hD
  rename_i hm
  split; exact hD
  refine hD.app fun i hi he => hm (at_found hD hi he).1
theorem orR_dist {ins : Int} {L : List S79} (hD : Dist L) (x y : Int) : Dist (orR ins L x y).1 := andR_dist hD _ _
/-- The search and what follows. -/
theorem spec_find_ev {ins : Int} {L : List S79} (hin : 0 ≤ ins ∧ ins ≤ 1000) (hL : L.length ≤ 3000) (hD : Dist L) (a b : Int) :
    Ev (fun k => spec_l07And.l0 k a b 0 ins L) (if mhas (atMap ins L) ⟨a, b⟩ = true then (ins, L, mget (atMap ins L) ⟨a, b⟩) else if 3000 ≤ L.length then (ins, L, -1) else (ins, L ++ [⟨a, b⟩], 2 * (ins + 1 + L.length))) := by
  have hs : ∀ d i, i + d = L.length → (∀ j : Nat, j < i → rd_T79 L (j : Int) ≠ ⟨a, b⟩) → Ev (fun k => spec_l07And.l0 k a b (i : Int) ins L) (if mhas (atMap ins L) ⟨a, b⟩ = true then (ins, L, mget (atMap ins L) ⟨a, b⟩) else if 3000 ≤ L.length then (ins, L, -1) else (ins, L ++ [⟨a, b⟩], 2 * (ins + 1 + L.length))) := by
    intro d
    induction d with
    | zero =>
      intro i hi hn
      rw [at_none (fun j hj => hn j (by omega)), if_neg (by decide)]
      by_cases h3 : 3000 ≤ L.length
      · rw [if_pos h3]
        refine ev_step (f := fun _ => some (ins, L, -1)) (fun k => ?_) (ev_some _)
        simp only [spec_l07And.l0]
        rw [if_neg (by omega), if_pos (by omega)]
      · rw [if_neg h3]
        refine ev_step (f := fun _ => some (ins, L ++ [⟨a, b⟩], 2 * (ins + 1 + L.length))) (fun k => ?_) (ev_some _)
        simp only [spec_l07And.l0]
        rw [if_neg (by omega), if_neg (by omega), if_pos (by omega), Option.bind_some, List.length_append, List.length_singleton, w64 (n := ins + ((L.length + 1 : Nat) : Int)) (by omega) (by omega), w64 (by omega) (by omega), show 2 * (ins + ((L.length + 1 : Nat) : Int)) = 2 * (ins + 1 + L.length) from by omega]
    | succ d ih =>
      intro i hi hn
      by_cases he : rd_T79 L (i : Int) = ⟨a, b⟩
      · obtain ⟨h1, h2⟩ := at_found (ins := ins) hD (by omega : i < L.length) he
        rw [h1, if_pos rfl, h2]
        refine ev_step (f := fun _ => some (ins, L, 2 * (ins + 1 + (i : Int)))) (fun k => ?_) (ev_some _)
        simp only [spec_l07And.l0]
        rw [if_pos (by omega), if_pos (by omega), if_pos (by rw [he]), if_pos (by rw [he]), w64 (n := ins + 1) (by omega) (by omega), w64 (n := ins + 1 + (i : Int)) (by omega) (by omega), w64 (by omega) (by omega)]
      · refine ev_step (f := fun k => spec_l07And.l0 k a b ((i + 1 : Nat) : Int) ins L) (fun k => ?_) (ih (i + 1) (by omega) (fun j hj => ?_))
        · simp only [spec_l07And.l0]
          rw [if_pos (by omega), if_pos (by omega), w64s i (by omega)]
          by_cases h0 : (rd_T79 L (i : Int)).f0 = a
          · rw [if_pos h0, if_neg (fun h1 => he (and_ext h0 h1))]
          · rw [if_neg h0]
        · rcases Nat.lt_succ_iff_lt_or_eq.1 hj with h | rfl
          · exact hn j h
          · exact he
  have := hs L.length 0 (by omega) (fun j hj => by omega)
  exact this
/-- Sorted wires. -/
theorem spec_and_le {ins : Int} {L : List S79} (hin : 0 ≤ ins ∧ ins ≤ 1000) (hL : L.length ≤ 3000) (hD : Dist L) {a b : Int} (ha : 0 ≤ a ∧ a ≤ 1048575) (hb : 0 ≤ b ∧ b ≤ 1048575) (hab : a ≤ b) :
    Ev (fun k => spec_l07And.f k ins L a b) (if a = 0 then (ins, L, 0) else if a = Go.bits .xor .i64 b 1 then (ins, L, 0) else if a = 1 then (ins, L, b) else if a = b then (ins, L, b) else
      if mhas (atMap ins L) ⟨a, b⟩ = true then (ins, L, mget (atMap ins L) ⟨a, b⟩) else if 3000 ≤ L.length then (ins, L, -1) else (ins, L ++ [⟨a, b⟩], 2 * (ins + 1 + L.length))) := by
  have hj : ∀ t : Bool, t = true → Ev (fun k => spec_l07And.j0 k a b t ins L) (ins, L, 0) := by
    rintro _ rfl
    refine ev_step (f := fun _ => some (ins, L, 0)) (fun k => ?_) (ev_some _)
    simp only [spec_l07And.j0]
    exact if_pos trivial
  by_cases h0 : a = 0
  · rw [if_pos h0]
    refine ev_step (fun k => ?_) (hj true rfl)
    simp only [spec_l07And.f]
    rw [if_neg (by omega), if_pos h0]
  rw [if_neg h0]
  by_cases h1 : a = Go.bits .xor .i64 b 1
  · rw [if_pos h1]
    refine ev_step (fun k => ?_) (hj (a == Go.bits .xor .i64 b 1) (beq_iff_eq.2 h1))
    simp only [spec_l07And.f, spec_l07Turn.f, Option.bind_some]
    rw [if_neg (by omega), if_neg h0]
  rw [if_neg h1]
  refine ev_step (f := fun k => spec_l07And.j0 k a b false ins L) (fun k => ?_) ?_
  · simp only [spec_l07And.f, spec_l07Turn.f, Option.bind_some]
    rw [if_neg (by omega), if_neg h0, beq_eq_false_iff_ne.2 h1]
  by_cases h2 : a = 1
  · rw [if_pos h2]
    refine ev_step (f := fun _ => some (ins, L, b)) (fun k => ?_) (ev_some _)
    simp only [spec_l07And.j0]
    rw [if_neg (by decide), if_pos h2]
  rw [if_neg h2]
  by_cases h3 : a = b
  · rw [if_pos h3]
    refine ev_step (f := fun _ => some (ins, L, b)) (fun k => ?_) (ev_some _)
    simp only [spec_l07And.j0]
    rw [if_neg (by decide), if_neg h2, if_pos h3]
  rw [if_neg h3]
  refine ev_step (fun k => ?_) (spec_find_ev hin hL hD a b)
  simp only [spec_l07And.j0]
  rw [if_neg (by decide), if_neg h2, if_neg h3]
theorem spec_and_ev {ins : Int} {L : List S79} (hin : 0 ≤ ins ∧ ins ≤ 1000) (hL : L.length ≤ 3000) (hD : Dist L) {x y : Int} (hx : 0 ≤ x ∧ x ≤ 1048575) (hy : 0 ≤ y ∧ y ≤ 1048575) :
    Ev (fun k => spec_l07And.f k ins L x y) (ins, (andR ins L x y).1, (andR ins L x y).2) := by
  have tx := turn_turn hx
  have ty := turn_turn hy
  by_cases hxy : x ≤ y
  · have e := spec_and_le hin hL hD hx hy hxy
    have : (ins, (andR ins L x y).1, (andR ins L x y).2) = (if x = 0 then (ins, L, 0) else if x = Go.bits .xor .i64 y 1 then (ins, L, 0) else if x = 1 then (ins, L, y) else if x = y then (ins, L, y) else
      if mhas (atMap ins L) ⟨x, y⟩ = true then (ins, L, mget (atMap ins L) ⟨x, y⟩) else if 3000 ≤ L.length then (ins, L, -1) else (ins, L ++ [⟨x, y⟩], 2 * (ins + 1 + L.length))) := by
      unfold andR
      rw [show min x y = x by omega, show max x y = y by omega]
      by_cases h0 : x = 0
      · simp only [if_pos h0]
      simp only [if_neg h0]
      rw [if_neg (show ¬ y = 0 by omega)]
      by_cases h1 : x = Go.bits .xor .i64 y 1
      · simp only [if_pos h1]
      simp only [if_neg h1]
      by_cases h2 : x = 1
      · simp only [if_pos h2]
      simp only [if_neg h2]
      rw [if_neg (show ¬ y = 1 by omega)]
      by_cases h3 : x = y
      · simp only [if_pos h3]; rw [h3]
      simp only [if_neg h3]
      split
      · rfl
      · split <;> rfl
    rw [this]
    exact e
  · have e := spec_and_le hin hL hD hy hx (by omega)
    have : (ins, (andR ins L x y).1, (andR ins L x y).2) = (if y = 0 then (ins, L, 0) else if y = Go.bits .xor .i64 x 1 then (ins, L, 0) else if y = 1 then (ins, L, x) else if y = x then (ins, L, x) else
      if mhas (atMap ins L) ⟨y, x⟩ = true then (ins, L, mget (atMap ins L) ⟨y, x⟩) else if 3000 ≤ L.length then (ins, L, -1) else (ins, L ++ [⟨y, x⟩], 2 * (ins + 1 + L.length))) := by
      unfold andR
      rw [show min x y = y by omega, show max x y = x by omega]
      rw [if_neg (show ¬ x = 0 by omega)]
      by_cases h0 : y = 0
      · simp only [if_pos h0]
      simp only [if_neg h0]
      by_cases h1 : y = Go.bits .xor .i64 x 1
      · rw [if_pos (show x = Go.bits .xor .i64 y 1 by rw [h1, tx]), if_pos h1]
      rw [if_neg (fun h => h1 (show y = Go.bits .xor .i64 x 1 by rw [h, ty])), if_neg h1]
      rw [if_neg (show ¬ x = 1 by omega), if_neg (show ¬ x = y by omega), if_neg (show ¬ y = x by omega)]
      by_cases h2 : y = 1
      · rw [if_pos h2, if_pos h2]
      rw [if_neg h2, if_neg h2]
      split
      · rfl
      · split <;> rfl
    rw [this]
    refine ev_step (f := fun k => spec_l07And.f k ins L y x) (fun k => ?_) e
    simp only [spec_l07And.f]
    rw [if_pos (by omega)]
    cases spec_l07And.f k ins L y x <;> rfl
end Go.Proofs.Yteagogcpbcickaa.Pure
-- written by a program of this session (wip/gen/gen.py); Lean checks it
namespace Go.Proofs.Yteagogcpbcickaa.G
open Go.Proofs.Yteagogcpbcickaa.Sh Go.RowKit Go.Proofs.YteagogcpbcickaaW.PrintWords Go.Proofs.YteagogcpbcickaaW.PrintLast Go.Proofs.YteagogcpbcickaaW.PrintMore
attribute [local go_sem] max2_int min2_int max_two min_two max_three min_three max_four min_four   -- for this text's walks alone
set_option linter.unusedVariables false
set_option linter.unusedSimpArgs false

/-! ### spec_GraphAnd: function 29 -/
def spec_GraphAnd.j0 : Nat → Int → Int → Bool → Int → List (S79) → Option (Int × (List (S79)) × Int)
  | 0, _, _, _, _, _ => none
  | k + 1, x1, x2, x24, x102000, x102001 => if x24 = true then ((spec_l07Copy.f x102000 x102001).bind fun bt106 => (some (bt106.1, bt106.2, (-1)))) else ((spec_l07Copy.f x102000 x102001).bind fun bt110 => ((spec_l07And.f k bt110.1 bt110.2 x1 x2).bind fun bt114 => (if bt114.2.2 < 0 then ((spec_l07Copy.f x102000 x102001).bind fun bt120 => (some (bt120.1, bt120.2, (-1)))) else (some (bt114.1, bt114.2.1, bt114.2.2)))))
def spec_GraphAnd.f (k : Nat) (a0_0 : Int) (l0_1 : List (S79)) (a1 : Int) (a2 : Int) : Option (Int × (List (S79)) × Int) := (spec_GraphOk.f k a0_0 l0_1).bind fun t103 => (if t103 = true then ((spec_l07Wire.f a0_0 l0_1 a1).bind fun t104 => (if t104 = true then ((spec_l07Wire.f a0_0 l0_1 a2).bind fun t105 => (spec_GraphAnd.j0 k a1 a2 (!t105) a0_0 l0_1)) else (spec_GraphAnd.j0 k a1 a2 true a0_0 l0_1))) else (spec_GraphAnd.j0 k a1 a2 true a0_0 l0_1))
set_option maxHeartbeats 80000000 in
set_option maxRecDepth 100000 in
theorem spec_GraphAnd.calls (k : Nat) (a0_0 : Int) (A0_1 : Option Addr) (c0_1 : Nat) (l0_1 : List (S79)) (a1 : Int) (a2 : Int) (r1 : Int) (r2 : List (S79)) (r3 : Int) (w : World) (hr0_1 : Kd.C k79 w A0_1 l0_1.length l0_1) (hc0_1 : l0_1.length ≤ c0_1) (h : spec_GraphAnd.f k a0_0 l0_1 a1 a2 = some (r1, r2, r3)) :
  Calls Try.prog 29 #[.agg #[.int .i64 a0_0, .slice A0_1 l0_1.length c0_1], .int .i64 a1, .int .i64 a2] w fun e w' => ∃ v1_ : Value, e = .returned (.tuple #[.agg #[.int .i64 r1, v1_], .int .i64 r3]) ∧ Kd.R k79 79 w' w.heap.size (fun _ => True) v1_ r2 ∧ Below w.heap.size w w' := by
 have hu29 := Try.underlying29; have HR0_1 := Aside0.mk hr0_1; have HC0_1 := Aside0.mk hc0_1; clear hr0_1 hc0_1; have HB := Aside0.mk (Below.refl w.heap.size w)
 have H : ((spec_GraphOk.f k a0_0 l0_1).bind fun t103 => (if t103 = true then ((spec_l07Wire.f a0_0 l0_1 a1).bind fun t104 => (if t104 = true then ((spec_l07Wire.f a0_0 l0_1 a2).bind fun t105 => (spec_GraphAnd.j0 k a1 a2 (!t105) a0_0 l0_1)) else (spec_GraphAnd.j0 k a1 a2 true a0_0 l0_1))) else (spec_GraphAnd.j0 k a1 a2 true a0_0 l0_1))) = some (r1, r2, r3) := h
 clear h; have HC4 := Aside0.mk H; clear H
 go_enter Try.func29, Try.ntmps29
 go_upto_region 1 with (first | ((with_reducible refine gate_dst (N := 3) rfl ?_); refine box_event ?hg (N := 3) ?hd (cs := #[.int .i64 a0_0, .slice A0_1 l0_1.length c0_1]) (t := 29) ?hr ?_; (case hd => rfl); (case hg => rfl); (case hr => first | (go_simp; done) | (go_simp; rfl)); intro gb101 hg w5 hbox hb; have n0_ := bs0 HB hb; have n1_ := Aside0.mk (hbox); have n2_ := bz0 hg HB; have n3_ := bz0 hg HB; clear HB; have HB := n0_; have BK101 := n1_; have GW101 := n2_; have GE101 := n3_; clear n0_ n1_ n2_ n3_; clear hb hbox hg) | ((with_reducible refine gate_dst (N := 6) rfl ?_); refine box_event ?hg (N := 6) ?hd (cs := #[.int .i64 0, .slice none 0 0]) (t := 29) ?hr ?_; (case hd => rfl); (case hg => rfl); (case hr => first | (go_simp; done) | (go_simp; rfl)); intro gb102 hg w6 hbox hb; have n0_ := bb BK101 hb; have n1_ := bs1 HB hb GE101; have n2_ := Aside0.mk (hbox); have n3_ := bz1 hg HB GE101; have n4_ := bz1 hg HB GE101; have n5_ := nl hg BK101; have n6_ := ng hg BK101; clear BK101; clear HB; have BK101 := n0_; have HB := n1_; have BK102 := n2_; have GW102 := n3_; have GE102 := n4_; have NB101_102 := n5_; have NB102_101 := n6_; clear n0_ n1_ n2_ n3_ n4_ n5_ n6_; clear hb hbox hg))
 (try simp only [Act.put, List.setIfInBounds_toArray, List.set_cons_zero, List.set_cons_succ])
 go_cut [24] (fun v24 wc => ∃ (kq : Nat) (x24_3 : Bool), v24 = .bool x24_3 ∧ Aside0 (spec_GraphAnd.j0 kq a1 a2 x24_3 a0_0 l0_1 = some (r1, r2, r3)) ∧ Aside0 (kq ≤ k) ∧ Aside0 (wc.heap[gb101]? = some (.cells #[.int .i64 a0_0, (.slice A0_1 l0_1.length c0_1)] 29 (0, 0))) ∧ Aside0 (wc.heap[gb102]? = some (.cells #[.int .i64 0, (.slice none 0 0)] 29 (0, 0))) ∧ Aside0 (Below w.heap.size w wc))
 case first =>
  have H := HC4.out; clear HC4
  replace H := Option.bind_eq_some_iff.mp H
  obtain ⟨t103, A70, H⟩ := H
  replace H : (if t103 = true then ((spec_l07Wire.f a0_0 l0_1 a1).bind fun t104 => (if t104 = true then ((spec_l07Wire.f a0_0 l0_1 a2).bind fun t105 => (spec_GraphAnd.j0 k a1 a2 (!t105) a0_0 l0_1)) else (spec_GraphAnd.j0 k a1 a2 true a0_0 l0_1))) else (spec_GraphAnd.j0 k a1 a2 true a0_0 l0_1)) = some (r1, r2, r3) := H
  have A7 := Aside0.mk A70; clear A70
  by_cases c8 : t103 = true
  ·subst c8
   have H1 : ((spec_l07Wire.f a0_0 l0_1 a1).bind fun t104 => (if t104 = true then ((spec_l07Wire.f a0_0 l0_1 a2).bind fun t105 => (spec_GraphAnd.j0 k a1 a2 (!t105) a0_0 l0_1)) else (spec_GraphAnd.j0 k a1 a2 true a0_0 l0_1))) = some (r1, r2, r3) := by rw [if_pos rfl] at H; exact H
   clear H; have H := H1; clear H1
   replace H := Option.bind_eq_some_iff.mp H
   obtain ⟨t104, A90, H⟩ := H
   replace H : (if t104 = true then ((spec_l07Wire.f a0_0 l0_1 a2).bind fun t105 => (spec_GraphAnd.j0 k a1 a2 (!t105) a0_0 l0_1)) else (spec_GraphAnd.j0 k a1 a2 true a0_0 l0_1)) = some (r1, r2, r3) := H
   have A9 := Aside0.mk A90; clear A90
   by_cases c10 : t104 = true
   ·subst c10
    have H1 : ((spec_l07Wire.f a0_0 l0_1 a2).bind fun t105 => (spec_GraphAnd.j0 k a1 a2 (!t105) a0_0 l0_1)) = some (r1, r2, r3) := by rw [if_pos rfl] at H; exact H
    clear H; have H := H1; clear H1
    replace H := Option.bind_eq_some_iff.mp H
    obtain ⟨t105, A110, H⟩ := H
    replace H : (spec_GraphAnd.j0 k a1 a2 (!t105) a0_0 l0_1) = some (r1, r2, r3) := H
    have A11 := Aside0.mk A110; clear A110
    have H' := Aside0.mk H
    clear H; have hnb12 := NB101_102.out; have hnc12 := NB102_101.out; have hcz13_0 : w6.cell? ⟨gb101, 0, none⟩ = some (.int .i64 a0_0) := (blk_cell BK101.out 0).trans rfl; have hcz13_1 : w6.cell? ⟨gb101, 1, none⟩ = some (.slice A0_1 l0_1.length c0_1) := (blk_cell BK101.out 1).trans rfl; have hfz13_0 := blk_frozen BK101.out 0; have hfz13_1 := blk_frozen BK101.out 1
    go_wp2_with (first | ((with_reducible refine gate_callee (f := 16) rfl ?_); refine goesL_ (some 11) rfl rfl Try.func16 (by kernel_rfl) rfl #[.agg #[.int .i64 a0_0, .slice A0_1 l0_1.length c0_1]] rfl (by (try simp only [List.map_toArray, List.map_cons, List.map_nil]); first | done | rfl | (simp only [List.length_drop, List.length_take]; rfl)) ?_; (with_reducible refine (spec_GraphOk.calls k a0_0 _ _ l0_1 true _ ?side1 ?side2 A7.out).mono ?_); (case side1 => repeat (first | exact (Kd.C_below HR0_1.out HB.out) | (with_reducible refine Kd.C_alloc ?_ _) | (with_reducible refine Kd.C_drewN ?_ _) | (with_reducible refine Kd.C_drew ?_))); (case side2 => exact HC0_1.out); rintro e w14 ⟨rfl, hb⟩; refine ⟨_, rfl, ?_⟩; have n0_ := bb BK101 hb; have n1_ := bb BK102 hb; have n2_ := bs2 HB hb GE101 GE102; clear BK101; clear BK102; clear HB; have BK101 := n0_; have BK102 := n1_; have HB := n2_; clear n0_ n1_ n2_; (try clear hb); (try clear hb2); (try clear hk); (try clear hi); have hcz15_0 : w14.cell? ⟨gb101, 0, none⟩ = some (.int .i64 a0_0) := (blk_cell BK101.out 0).trans rfl; have hcz15_1 : w14.cell? ⟨gb101, 1, none⟩ = some (.slice A0_1 l0_1.length c0_1) := (blk_cell BK101.out 1).trans rfl; have hfz15_0 := blk_frozen BK101.out 0; have hfz15_1 := blk_frozen BK101.out 1) | (go_at_call 62; (try simp only [i64_w, i32_w]); (with_reducible refine (spec_l07Wire.calls a0_0 _ _ l0_1 a1 true _ ?side1 ?side2 A9.out).mono ?_); (case side1 => repeat (first | exact (Kd.C_below HR0_1.out HB.out) | (with_reducible refine Kd.C_alloc ?_ _) | (with_reducible refine Kd.C_drewN ?_ _) | (with_reducible refine Kd.C_drew ?_))); (case side2 => exact HC0_1.out); rintro e w16 ⟨rfl, hb⟩; have n0_ := bb BK101 hb; have n1_ := bb BK102 hb; have n2_ := bs2 HB hb GE101 GE102; clear BK101; clear BK102; clear HB; have BK101 := n0_; have BK102 := n1_; have HB := n2_; clear n0_ n1_ n2_; (try clear hb); (try clear hb2); (try clear hk); (try clear hi); have hcz17_0 : w16.cell? ⟨gb101, 0, none⟩ = some (.int .i64 a0_0) := (blk_cell BK101.out 0).trans rfl; have hcz17_1 : w16.cell? ⟨gb101, 1, none⟩ = some (.slice A0_1 l0_1.length c0_1) := (blk_cell BK101.out 1).trans rfl; have hfz17_0 := blk_frozen BK101.out 0; have hfz17_1 := blk_frozen BK101.out 1) | (go_at_call 62; (try simp only [i64_w, i32_w]); (with_reducible refine (spec_l07Wire.calls a0_0 _ _ l0_1 a2 t105 _ ?side1 ?side2 A11.out).mono ?_); (case side1 => repeat (first | exact (Kd.C_below HR0_1.out HB.out) | (with_reducible refine Kd.C_alloc ?_ _) | (with_reducible refine Kd.C_drewN ?_ _) | (with_reducible refine Kd.C_drew ?_))); (case side2 => exact HC0_1.out); rintro e w18 ⟨rfl, hb⟩; have n0_ := bb BK101 hb; have n1_ := bb BK102 hb; have n2_ := bs2 HB hb GE101 GE102; clear BK101; clear BK102; clear HB; have BK101 := n0_; have BK102 := n1_; have HB := n2_; clear n0_ n1_ n2_; (try clear hb); (try clear hb2); (try clear hk); (try clear hi)))
    go_meet
    case rel => exact ⟨_, (!t105), (by first | rfl | (simp; done) | (simp [*]; done)), H', ⟨by first | omega | exact Nat.le_refl _⟩, ⟨by (with_reducible repeat (first | refine blk_drewN ?_ _ | refine blk_drew ?_ | refine blk_alloc ?_ _)); exact BK101.out⟩, ⟨by (with_reducible repeat (first | refine blk_drewN ?_ _ | refine blk_drew ?_ | refine blk_alloc ?_ _)); exact BK102.out⟩, ⟨by repeat (first | (with_reducible first | exact HB.out | apply below_alloc | apply pw_below_drewN | apply below_drew1 | refine below_set ?_ GE101.out | refine below_set ?_ GE102.out) | exact HB.out)⟩⟩
   ·replace c10 := Bool.eq_false_iff.mpr c10
    subst c10
    have H1 : (spec_GraphAnd.j0 k a1 a2 true a0_0 l0_1) = some (r1, r2, r3) := by rw [if_neg (show ¬ (false = true) by decide)] at H; exact H
    clear H; have H := H1; clear H1
    have H' := Aside0.mk H
    clear H; have hnb19 := NB101_102.out; have hnc19 := NB102_101.out; have hcz20_0 : w6.cell? ⟨gb101, 0, none⟩ = some (.int .i64 a0_0) := (blk_cell BK101.out 0).trans rfl; have hcz20_1 : w6.cell? ⟨gb101, 1, none⟩ = some (.slice A0_1 l0_1.length c0_1) := (blk_cell BK101.out 1).trans rfl; have hfz20_0 := blk_frozen BK101.out 0; have hfz20_1 := blk_frozen BK101.out 1
    go_wp2_with (first | ((with_reducible refine gate_callee (f := 16) rfl ?_); refine goesL_ (some 11) rfl rfl Try.func16 (by kernel_rfl) rfl #[.agg #[.int .i64 a0_0, .slice A0_1 l0_1.length c0_1]] rfl (by (try simp only [List.map_toArray, List.map_cons, List.map_nil]); first | done | rfl | (simp only [List.length_drop, List.length_take]; rfl)) ?_; (with_reducible refine (spec_GraphOk.calls k a0_0 _ _ l0_1 true _ ?side1 ?side2 A7.out).mono ?_); (case side1 => repeat (first | exact (Kd.C_below HR0_1.out HB.out) | (with_reducible refine Kd.C_alloc ?_ _) | (with_reducible refine Kd.C_drewN ?_ _) | (with_reducible refine Kd.C_drew ?_))); (case side2 => exact HC0_1.out); rintro e w21 ⟨rfl, hb⟩; refine ⟨_, rfl, ?_⟩; have n0_ := bb BK101 hb; have n1_ := bb BK102 hb; have n2_ := bs2 HB hb GE101 GE102; clear BK101; clear BK102; clear HB; have BK101 := n0_; have BK102 := n1_; have HB := n2_; clear n0_ n1_ n2_; (try clear hb); (try clear hb2); (try clear hk); (try clear hi); have hcz22_0 : w21.cell? ⟨gb101, 0, none⟩ = some (.int .i64 a0_0) := (blk_cell BK101.out 0).trans rfl; have hcz22_1 : w21.cell? ⟨gb101, 1, none⟩ = some (.slice A0_1 l0_1.length c0_1) := (blk_cell BK101.out 1).trans rfl; have hfz22_0 := blk_frozen BK101.out 0; have hfz22_1 := blk_frozen BK101.out 1) | (go_at_call 62; (try simp only [i64_w, i32_w]); (with_reducible refine (spec_l07Wire.calls a0_0 _ _ l0_1 a1 false _ ?side1 ?side2 A9.out).mono ?_); (case side1 => repeat (first | exact (Kd.C_below HR0_1.out HB.out) | (with_reducible refine Kd.C_alloc ?_ _) | (with_reducible refine Kd.C_drewN ?_ _) | (with_reducible refine Kd.C_drew ?_))); (case side2 => exact HC0_1.out); rintro e w23 ⟨rfl, hb⟩; have n0_ := bb BK101 hb; have n1_ := bb BK102 hb; have n2_ := bs2 HB hb GE101 GE102; clear BK101; clear BK102; clear HB; have BK101 := n0_; have BK102 := n1_; have HB := n2_; clear n0_ n1_ n2_; (try clear hb); (try clear hb2); (try clear hk); (try clear hi)))
    go_meet
    case rel => exact ⟨_, (true), (by first | rfl | (simp; done) | (simp [*]; done)), H', ⟨by first | omega | exact Nat.le_refl _⟩, ⟨by (with_reducible repeat (first | refine blk_drewN ?_ _ | refine blk_drew ?_ | refine blk_alloc ?_ _)); exact BK101.out⟩, ⟨by (with_reducible repeat (first | refine blk_drewN ?_ _ | refine blk_drew ?_ | refine blk_alloc ?_ _)); exact BK102.out⟩, ⟨by repeat (first | (with_reducible first | exact HB.out | apply below_alloc | apply pw_below_drewN | apply below_drew1 | refine below_set ?_ GE101.out | refine below_set ?_ GE102.out) | exact HB.out)⟩⟩
  ·replace c8 := Bool.eq_false_iff.mpr c8
   subst c8
   have H1 : (spec_GraphAnd.j0 k a1 a2 true a0_0 l0_1) = some (r1, r2, r3) := by rw [if_neg (show ¬ (false = true) by decide)] at H; exact H
   clear H; have H := H1; clear H1
   have H' := Aside0.mk H
   clear H; have hnb24 := NB101_102.out; have hnc24 := NB102_101.out; have hcz25_0 : w6.cell? ⟨gb101, 0, none⟩ = some (.int .i64 a0_0) := (blk_cell BK101.out 0).trans rfl; have hcz25_1 : w6.cell? ⟨gb101, 1, none⟩ = some (.slice A0_1 l0_1.length c0_1) := (blk_cell BK101.out 1).trans rfl; have hfz25_0 := blk_frozen BK101.out 0; have hfz25_1 := blk_frozen BK101.out 1
   go_wp2_with (first | ((with_reducible refine gate_callee (f := 16) rfl ?_); refine goesL_ (some 11) rfl rfl Try.func16 (by kernel_rfl) rfl #[.agg #[.int .i64 a0_0, .slice A0_1 l0_1.length c0_1]] rfl (by (try simp only [List.map_toArray, List.map_cons, List.map_nil]); first | done | rfl | (simp only [List.length_drop, List.length_take]; rfl)) ?_; (with_reducible refine (spec_GraphOk.calls k a0_0 _ _ l0_1 false _ ?side1 ?side2 A7.out).mono ?_); (case side1 => repeat (first | exact (Kd.C_below HR0_1.out HB.out) | (with_reducible refine Kd.C_alloc ?_ _) | (with_reducible refine Kd.C_drewN ?_ _) | (with_reducible refine Kd.C_drew ?_))); (case side2 => exact HC0_1.out); rintro e w26 ⟨rfl, hb⟩; refine ⟨_, rfl, ?_⟩; have n0_ := bb BK101 hb; have n1_ := bb BK102 hb; have n2_ := bs2 HB hb GE101 GE102; clear BK101; clear BK102; clear HB; have BK101 := n0_; have BK102 := n1_; have HB := n2_; clear n0_ n1_ n2_; (try clear hb); (try clear hb2); (try clear hk); (try clear hi)))
   go_meet
   case rel => exact ⟨_, (true), (by first | rfl | (simp; done) | (simp [*]; done)), H', ⟨by first | omega | exact Nat.le_refl _⟩, ⟨by (with_reducible repeat (first | refine blk_drewN ?_ _ | refine blk_drew ?_ | refine blk_alloc ?_ _)); exact BK101.out⟩, ⟨by (with_reducible repeat (first | refine blk_drewN ?_ _ | refine blk_drew ?_ | refine blk_alloc ?_ _)); exact BK102.out⟩, ⟨by repeat (first | (with_reducible first | exact HB.out | apply below_alloc | apply pw_below_drewN | apply below_drew1 | refine below_set ?_ GE101.out | refine below_set ?_ GE102.out) | exact HB.out)⟩⟩
 case rest =>
  clear HC4
  (try clear c1); (try clear c2); (try clear p2); (try clear c8); (try clear c10); (try clear c12); (try clear c16); (try clear c19); (try clear c24); (try clear hcz13_0); (try clear hcz13_1); (try clear hcz15_0); (try clear hcz15_1); (try clear hcz17_0); (try clear hcz17_1); (try clear hcz20_0); (try clear hcz20_1); (try clear hcz22_0); (try clear hcz22_1); (try clear hcz25_0); (try clear hcz25_1); (try clear hfz13_0); (try clear hfz13_1); (try clear hfz15_0); (try clear hfz15_1); (try clear hfz17_0); (try clear hfz17_1); (try clear hfz20_0); (try clear hfz20_1); (try clear hfz22_0); (try clear hfz22_1); (try clear hfz25_0); (try clear hfz25_1)
  obtain ⟨kq, x24_3, rfl, HA, HJ3, BK101, BK102, HB⟩ := hcut
  cases kq with
    | zero => exact absurd HA.out (by simp [spec_GraphAnd.j0])
    | succ kj3 =>
   have H := HA.out; clear HA
   simp only [spec_GraphAnd.j0] at H
   by_cases c27 : x24_3 = true
   ·subst c27
    have H1 : ((spec_l07Copy.f a0_0 l0_1).bind fun bt106 => (some (bt106.1, bt106.2, (-1)))) = some (r1, r2, r3) := by rw [if_pos rfl] at H; exact H
    clear H; have H := H1; clear H1
    replace H := Option.bind_eq_some_iff.mp H
    obtain ⟨⟨t106, t107⟩, A280, H⟩ := H
    replace H : (some (t106, t107, (-1))) = some (r1, r2, r3) := H
    have A28 := Aside0.mk A280; clear A280
    simp only [Option.some.injEq, Prod.mk.injEq] at H
    obtain ⟨rfl, rfl, rfl⟩ := H
    have hnb29 := NB101_102.out; have hnc29 := NB102_101.out; have hcz30_0 : wc.cell? ⟨gb101, 0, none⟩ = some (.int .i64 a0_0) := (blk_cell BK101.out 0).trans rfl; have hcz30_1 : wc.cell? ⟨gb101, 1, none⟩ = some (.slice A0_1 l0_1.length c0_1) := (blk_cell BK101.out 1).trans rfl; have hfz30_0 := blk_frozen BK101.out 0; have hfz30_1 := blk_frozen BK101.out 1
    go_wp2_with (first | ((with_reducible refine gate_callee (f := 70) rfl ?_); refine goesL_ (some 26) rfl rfl Try.func70 (by kernel_rfl) rfl #[.agg #[.int .i64 a0_0, .slice A0_1 l0_1.length c0_1]] rfl (by (try simp only [List.map_toArray, List.map_cons, List.map_nil]); first | done | rfl | (simp only [List.length_drop, List.length_take]; rfl)) ?_; (with_reducible refine (spec_l07Copy.calls a0_0 _ _ l0_1 t106 t107 _ ?side1 ?side2 A28.out).mono ?_); (case side1 => repeat (first | exact (Kd.C_below HR0_1.out HB.out) | (with_reducible refine Kd.C_alloc ?_ _) | (with_reducible refine Kd.C_drewN ?_ _) | (with_reducible refine Kd.C_drew ?_))); (case side2 => exact HC0_1.out); rintro e w31 ⟨v108, rfl, ho0, hb⟩; refine ⟨_, rfl, ?_⟩; have n0_ := Aside0.mk (Kd.R_lower ho0 (below_size (by repeat (first | (with_reducible first | exact HB.out | apply below_alloc | apply pw_below_drewN | apply below_drew1 | refine below_set ?_ GE101.out | refine below_set ?_ GE102.out) | exact HB.out)))); have n1_ := bb BK101 hb; have n2_ := bb BK102 hb; have n3_ := bs2 HB hb GE101 GE102; clear BK101; clear BK102; clear HB; have HO109 := n0_; have BK101 := n1_; have BK102 := n2_; have HB := n3_; clear n0_ n1_ n2_ n3_; (try clear hb); (try clear hb2); (try clear hk); (try clear hi); (try clear ho0); have hcz32_0 : w31.cell? ⟨gb102, 0, none⟩ = some (.int .i64 0) := (blk_cell BK102.out 0).trans rfl; have hcz32_1 : w31.cell? ⟨gb102, 1, none⟩ = some (.slice none 0 0) := (blk_cell BK102.out 1).trans rfl; have hfz32_0 := blk_frozen BK102.out 0; have hfz32_1 := blk_frozen BK102.out 1; obtain ⟨Ao33, co33, eo33⟩ := Kd.R_slice HO109.out; subst eo33))
    refine bodyPost_ret (results_ct rfl _ _ gb102 29 #[.int .i64 t106, .slice Ao33 t107.length co33] (0, 0) _ rfl (by (with_reducible repeat (first | refine blk_drewN ?_ _ | refine blk_drew ?_ | refine blk_alloc ?_ _)); exact bp2 BK102.out) Try.underlying29 rfl (by kernel_rfl)) rfl ?_
    exact ⟨_, by first | rfl | (simp [errW_none, errW_some] <;> rfl) | (simp [*, errW_none, errW_some] <;> rfl), by (with_reducible repeat (first | apply Kd.R_alloc | apply Kd.R_drewN | apply Kd.R_drew)); exact Kd.R_mono (Kd.R_far (p := ⟨gb102, 1, none⟩) (Kd.R_far (p := ⟨gb102, 0, none⟩) (Kd.R_types HO109.out BK102.out (by decide)) (fun _ hk => hk.2) (.int .i64 t106)) (fun _ hk => hk.2) (.slice Ao33 t107.length co33)) (fun _ hk => trivial), by repeat (first | (with_reducible first | exact HB.out | apply below_alloc | apply pw_below_drewN | apply below_drew1 | refine below_set ?_ GE101.out | refine below_set ?_ GE102.out) | exact HB.out)⟩
   ·replace c27 := Bool.eq_false_iff.mpr c27
    subst c27
    have H1 : ((spec_l07Copy.f a0_0 l0_1).bind fun bt110 => ((spec_l07And.f kj3 bt110.1 bt110.2 a1 a2).bind fun bt114 => (if bt114.2.2 < 0 then ((spec_l07Copy.f a0_0 l0_1).bind fun bt120 => (some (bt120.1, bt120.2, (-1)))) else (some (bt114.1, bt114.2.1, bt114.2.2))))) = some (r1, r2, r3) := by rw [if_neg (show ¬ (false = true) by decide)] at H; exact H
    clear H; have H := H1; clear H1
    replace H := Option.bind_eq_some_iff.mp H
    obtain ⟨⟨t110, t111⟩, A340, H⟩ := H
    replace H : ((spec_l07And.f kj3 t110 t111 a1 a2).bind fun bt114 => (if bt114.2.2 < 0 then ((spec_l07Copy.f a0_0 l0_1).bind fun bt120 => (some (bt120.1, bt120.2, (-1)))) else (some (bt114.1, bt114.2.1, bt114.2.2)))) = some (r1, r2, r3) := H
    have A34 := Aside0.mk A340; clear A340
    replace H := Option.bind_eq_some_iff.mp H
    obtain ⟨⟨t114, t115, t118⟩, A350, H⟩ := H
    replace H : (if t118 < 0 then ((spec_l07Copy.f a0_0 l0_1).bind fun bt120 => (some (bt120.1, bt120.2, (-1)))) else (some (t114, t115, t118))) = some (r1, r2, r3) := H
    have A35 := Aside0.mk A350; clear A350
    by_cases c36 : t118 < 0
    ·rw [if_pos c36] at H
     have c36b0 : decide (t118 < 0) = true := decide_eq_true c36; clear c36
     replace H := Option.bind_eq_some_iff.mp H
     obtain ⟨⟨t120, t121⟩, A370, H⟩ := H
     replace H : (some (t120, t121, (-1))) = some (r1, r2, r3) := H
     have A37 := Aside0.mk A370; clear A370
     simp only [Option.some.injEq, Prod.mk.injEq] at H
     obtain ⟨rfl, rfl, rfl⟩ := H
     have hnb38 := NB101_102.out; have hnc38 := NB102_101.out; have hcz39_0 : wc.cell? ⟨gb101, 0, none⟩ = some (.int .i64 a0_0) := (blk_cell BK101.out 0).trans rfl; have hcz39_1 : wc.cell? ⟨gb101, 1, none⟩ = some (.slice A0_1 l0_1.length c0_1) := (blk_cell BK101.out 1).trans rfl; have hfz39_0 := blk_frozen BK101.out 0; have hfz39_1 := blk_frozen BK101.out 1
     go_wp2_with (first | ((with_reducible refine gate_callee (f := 70) rfl ?_); refine goesL_ (some 29) rfl rfl Try.func70 (by kernel_rfl) rfl #[.agg #[.int .i64 a0_0, .slice A0_1 l0_1.length c0_1]] rfl (by (try simp only [List.map_toArray, List.map_cons, List.map_nil]); first | done | rfl | (simp only [List.length_drop, List.length_take]; rfl)) ?_; (with_reducible refine (spec_l07Copy.calls a0_0 _ _ l0_1 t110 t111 _ ?side1 ?side2 A34.out).mono ?_); (case side1 => repeat (first | exact (Kd.C_below HR0_1.out HB.out) | (with_reducible refine Kd.C_alloc ?_ _) | (with_reducible refine Kd.C_drewN ?_ _) | (with_reducible refine Kd.C_drew ?_))); (case side2 => exact HC0_1.out); rintro e w40 ⟨v112, rfl, ho0, hb⟩; refine ⟨_, rfl, ?_⟩; have n0_ := Aside0.mk (Kd.R_lower ho0 (below_size (by repeat (first | (with_reducible first | exact HB.out | apply below_alloc | apply pw_below_drewN | apply below_drew1 | refine below_set ?_ GE101.out | refine below_set ?_ GE102.out) | exact HB.out)))); have n1_ := bb BK101 hb; have n2_ := bb BK102 hb; have n3_ := bs2 HB hb GE101 GE102; clear BK101; clear BK102; clear HB; have HO113 := n0_; have BK101 := n1_; have BK102 := n2_; have HB := n3_; clear n0_ n1_ n2_ n3_; (try clear hb); (try clear hb2); (try clear hk); (try clear hi); (try clear ho0); obtain ⟨Ao41, co41, eo41⟩ := Kd.R_slice HO113.out; subst eo41) | ((with_reducible refine gate_callee (f := 71) rfl ?_); refine goesL_ (some 32) rfl rfl Try.func71 (by kernel_rfl) rfl #[.agg #[.int .i64 t110, .slice Ao41 t111.length co41], .int .i64 a1, .int .i64 a2] rfl (by (try simp only [List.map_toArray, List.map_cons, List.map_nil]); first | done | rfl | (simp only [List.length_drop, List.length_take]; rfl)) ?_; (with_reducible refine (spec_l07And.calls kj3 t110 (fun k_ => some k_ = (.slice Ao41 t111.length co41 : Value).ownBlock) (.slice Ao41 t111.length co41) t111 a1 a2 t114 t115 t118 w _ ?side1 ?side2 A35.out).mono ?_); (case side1 => repeat (first | (with_reducible first | exact HB.out | apply below_alloc | apply pw_below_drewN | apply below_drew1 | refine below_set ?_ GE101.out | refine below_set ?_ GE102.out) | exact HB.out)); (case side2 => exact Kd.R_tight rfl HO113.out); rintro e w42 ⟨v116, rfl, ho0, hb, hkp⟩; refine ⟨_, rfl, ?_⟩; have n0_ := Aside0.mk (blk_kept (dr BK101) hkp (fun hs_ => (fun e_ => (Kd.R_ne HO113.out BK101.out (by decide)) e_) hs_)); have n1_ := Aside0.mk (blk_kept (dr BK102) hkp (fun hs_ => (fun e_ => (Kd.R_ne HO113.out BK102.out (by decide)) e_) hs_)); have n2_ := Aside0.mk (Kd.R_mono (ok' := fun k_ => True) ho0 (fun k_ hk_ => trivial)); have n3_ := Aside0.mk (hb); clear BK101; clear BK102; clear HB; clear HO113; have BK101 := n0_; have BK102 := n1_; have HO117 := n2_; have HB := n3_; clear n0_ n1_ n2_ n3_; (try clear hb); (try clear hkp); (try clear ho0)) | ((with_reducible refine gate_dst (N := 8) rfl ?_); refine box_event ?hg (N := 8) ?hd (cs := #[.int .i64 0, .slice none 0 0]) (t := 29) ?hr ?_; (case hd => rfl); (case hg => rfl); (case hr => first | (go_simp; done) | (go_simp; rfl)); intro gb119 hg w43 hbox hb; have n0_ := rb HO117 hb; have n1_ := bb BK101 hb; have n2_ := bb BK102 hb; have n3_ := bs2 HB hb GE101 GE102; have n4_ := Aside0.mk (hbox); have n5_ := bz2 hg HB GE101 GE102; have n6_ := bz2 hg HB GE101 GE102; have n7_ := nl hg BK101; have n8_ := ng hg BK101; have n9_ := nl hg BK102; have n10_ := ng hg BK102; clear HO117; clear BK101; clear BK102; clear HB; have HO117 := n0_; have BK101 := n1_; have BK102 := n2_; have HB := n3_; have BK119 := n4_; have GW119 := n5_; have GE119 := n6_; have NB101_119 := n7_; have NB119_101 := n8_; have NB102_119 := n9_; have NB119_102 := n10_; clear n0_ n1_ n2_ n3_ n4_ n5_ n6_ n7_ n8_ n9_ n10_; clear hb hbox hg; have hnb44 := NB119_101.out; have hnc44 := NB101_119.out; have hnb45 := NB119_102.out; have hnc45 := NB102_119.out; have hcz46_0 : w43.cell? ⟨gb119, 0, none⟩ = some (.int .i64 0) := (blk_cell BK119.out 0).trans rfl; have hcz46_1 : w43.cell? ⟨gb119, 1, none⟩ = some (.slice none 0 0) := (blk_cell BK119.out 1).trans rfl; have hfz46_0 := blk_frozen BK119.out 0; have hfz46_1 := blk_frozen BK119.out 1; obtain ⟨Ao47, co47, eo47⟩ := Kd.R_slice HO117.out; subst eo47; have hcz48_0 : w43.cell? ⟨gb101, 0, none⟩ = some (.int .i64 a0_0) := (blk_cell BK101.out 0).trans rfl; have hcz48_1 : w43.cell? ⟨gb101, 1, none⟩ = some (.slice A0_1 l0_1.length c0_1) := (blk_cell BK101.out 1).trans rfl; have hfz48_0 := blk_frozen BK101.out 0; have hfz48_1 := blk_frozen BK101.out 1) | ((with_reducible refine gate_callee (f := 70) rfl ?_); refine goesL_ (some 38) rfl rfl Try.func70 (by kernel_rfl) rfl #[.agg #[.int .i64 a0_0, .slice A0_1 l0_1.length c0_1]] rfl (by (try simp only [List.map_toArray, List.map_cons, List.map_nil]); first | done | rfl | (simp only [List.length_drop, List.length_take]; rfl)) ?_; (with_reducible refine (spec_l07Copy.calls a0_0 _ _ l0_1 t120 t121 _ ?side1 ?side2 A37.out).mono ?_); (case side1 => exact Kd.C_below HR0_1.out (by repeat (first | (with_reducible first | exact HB.out | apply below_alloc | apply pw_below_drewN | apply below_drew1 | refine below_set ?_ GE101.out | refine below_set ?_ GE102.out | refine below_set ?_ GE119.out) | exact HB.out))); (case side2 => exact HC0_1.out); rintro e w49 ⟨v122, rfl, ho0, hb⟩; refine ⟨_, rfl, ?_⟩; have n0_ := Aside0.mk (Kd.R_elder' (by (with_reducible repeat (first | apply Kd.R_alloc | apply Kd.R_drewN | apply Kd.R_drew)); exact (rf HO117 BK119)) (Kd.R_base ho0) hb); have n1_ := Aside0.mk (Kd.R_lower (Kd.R_new' ho0 (Kd.R_lt (by (with_reducible repeat (first | apply Kd.R_alloc | apply Kd.R_drewN | apply Kd.R_drew)); exact (rf HO117 BK119)))) (below_size (by repeat (first | (with_reducible first | exact HB.out | apply below_alloc | apply pw_below_drewN | apply below_drew1 | refine below_set ?_ GE101.out | refine below_set ?_ GE102.out | refine below_set ?_ GE119.out) | exact HB.out)))); have n2_ := Aside0.mk (blk_below (dq BK101 NB101_119) hb); have n3_ := Aside0.mk (blk_below (dq BK102 NB102_119) hb); have n4_ := Aside0.mk (blk_below (g := gb119) (o := .cells #[.int .i64 t114, .slice Ao47 t115.length co47] 29 (0, 0)) (by (with_reducible repeat (first | refine blk_drewN ?_ _ | refine blk_drew ?_ | refine blk_alloc ?_ _)); exact bp2 BK119.out) hb); have n5_ := bs3 HB hb GE101 GE102 GE119; clear HO117; clear BK101; clear BK102; clear BK119; clear HB; have HO117 := n0_; have HO123 := n1_; have BK101 := n2_; have BK102 := n3_; have BK119 := n4_; have HB := n5_; clear n0_ n1_ n2_ n3_ n4_ n5_; (try clear hb); (try clear hb2); (try clear hk); (try clear hi); (try clear ho0); have hcz50_0 : w49.cell? ⟨gb102, 0, none⟩ = some (.int .i64 0) := (blk_cell BK102.out 0).trans rfl; have hcz50_1 : w49.cell? ⟨gb102, 1, none⟩ = some (.slice none 0 0) := (blk_cell BK102.out 1).trans rfl; have hfz50_0 := blk_frozen BK102.out 0; have hfz50_1 := blk_frozen BK102.out 1; obtain ⟨Ao51, co51, eo51⟩ := Kd.R_slice HO123.out; subst eo51))
     refine bodyPost_ret (results_ct rfl _ _ gb102 29 #[.int .i64 t120, .slice Ao51 t121.length co51] (0, 0) _ rfl (by (with_reducible repeat (first | refine blk_drewN ?_ _ | refine blk_drew ?_ | refine blk_alloc ?_ _)); exact bp2 BK102.out) Try.underlying29 rfl (by kernel_rfl)) rfl ?_
     exact ⟨_, by first | rfl | (simp [errW_none, errW_some] <;> rfl) | (simp [*, errW_none, errW_some] <;> rfl), by (with_reducible repeat (first | apply Kd.R_alloc | apply Kd.R_drewN | apply Kd.R_drew)); exact Kd.R_mono (Kd.R_far (p := ⟨gb102, 1, none⟩) (Kd.R_far (p := ⟨gb102, 0, none⟩) (Kd.R_types HO123.out BK102.out (by decide)) (fun _ hk => hk.2) (.int .i64 t120)) (fun _ hk => hk.2) (.slice Ao51 t121.length co51)) (fun _ hk => trivial), by repeat (first | (with_reducible first | exact HB.out | apply below_alloc | apply pw_below_drewN | apply below_drew1 | refine below_set ?_ GE101.out | refine below_set ?_ GE102.out | refine below_set ?_ GE119.out) | exact HB.out)⟩
    ·rw [if_neg c36] at H
     have c36b0 : decide (t118 < 0) = false := decide_eq_false c36; clear c36
     simp only [Option.some.injEq, Prod.mk.injEq] at H
     obtain ⟨rfl, rfl, rfl⟩ := H
     have hnb52 := NB101_102.out; have hnc52 := NB102_101.out; have hcz53_0 : wc.cell? ⟨gb101, 0, none⟩ = some (.int .i64 a0_0) := (blk_cell BK101.out 0).trans rfl; have hcz53_1 : wc.cell? ⟨gb101, 1, none⟩ = some (.slice A0_1 l0_1.length c0_1) := (blk_cell BK101.out 1).trans rfl; have hfz53_0 := blk_frozen BK101.out 0; have hfz53_1 := blk_frozen BK101.out 1
     go_wp2_with (first | ((with_reducible refine gate_callee (f := 70) rfl ?_); refine goesL_ (some 29) rfl rfl Try.func70 (by kernel_rfl) rfl #[.agg #[.int .i64 a0_0, .slice A0_1 l0_1.length c0_1]] rfl (by (try simp only [List.map_toArray, List.map_cons, List.map_nil]); first | done | rfl | (simp only [List.length_drop, List.length_take]; rfl)) ?_; (with_reducible refine (spec_l07Copy.calls a0_0 _ _ l0_1 t110 t111 _ ?side1 ?side2 A34.out).mono ?_); (case side1 => repeat (first | exact (Kd.C_below HR0_1.out HB.out) | (with_reducible refine Kd.C_alloc ?_ _) | (with_reducible refine Kd.C_drewN ?_ _) | (with_reducible refine Kd.C_drew ?_))); (case side2 => exact HC0_1.out); rintro e w54 ⟨v112, rfl, ho0, hb⟩; refine ⟨_, rfl, ?_⟩; have n0_ := Aside0.mk (Kd.R_lower ho0 (below_size (by repeat (first | (with_reducible first | exact HB.out | apply below_alloc | apply pw_below_drewN | apply below_drew1 | refine below_set ?_ GE101.out | refine below_set ?_ GE102.out) | exact HB.out)))); have n1_ := bb BK101 hb; have n2_ := bb BK102 hb; have n3_ := bs2 HB hb GE101 GE102; clear BK101; clear BK102; clear HB; have HO113 := n0_; have BK101 := n1_; have BK102 := n2_; have HB := n3_; clear n0_ n1_ n2_ n3_; (try clear hb); (try clear hb2); (try clear hk); (try clear hi); (try clear ho0); obtain ⟨Ao55, co55, eo55⟩ := Kd.R_slice HO113.out; subst eo55) | ((with_reducible refine gate_callee (f := 71) rfl ?_); refine goesL_ (some 32) rfl rfl Try.func71 (by kernel_rfl) rfl #[.agg #[.int .i64 t110, .slice Ao55 t111.length co55], .int .i64 a1, .int .i64 a2] rfl (by (try simp only [List.map_toArray, List.map_cons, List.map_nil]); first | done | rfl | (simp only [List.length_drop, List.length_take]; rfl)) ?_; (with_reducible refine (spec_l07And.calls kj3 t110 (fun k_ => some k_ = (.slice Ao55 t111.length co55 : Value).ownBlock) (.slice Ao55 t111.length co55) t111 a1 a2 t114 t115 t118 w _ ?side1 ?side2 A35.out).mono ?_); (case side1 => repeat (first | (with_reducible first | exact HB.out | apply below_alloc | apply pw_below_drewN | apply below_drew1 | refine below_set ?_ GE101.out | refine below_set ?_ GE102.out) | exact HB.out)); (case side2 => exact Kd.R_tight rfl HO113.out); rintro e w56 ⟨v116, rfl, ho0, hb, hkp⟩; refine ⟨_, rfl, ?_⟩; have n0_ := Aside0.mk (blk_kept (dr BK101) hkp (fun hs_ => (fun e_ => (Kd.R_ne HO113.out BK101.out (by decide)) e_) hs_)); have n1_ := Aside0.mk (blk_kept (dr BK102) hkp (fun hs_ => (fun e_ => (Kd.R_ne HO113.out BK102.out (by decide)) e_) hs_)); have n2_ := Aside0.mk (Kd.R_mono (ok' := fun k_ => True) ho0 (fun k_ hk_ => trivial)); have n3_ := Aside0.mk (hb); clear BK101; clear BK102; clear HB; clear HO113; have BK101 := n0_; have BK102 := n1_; have HO117 := n2_; have HB := n3_; clear n0_ n1_ n2_ n3_; (try clear hb); (try clear hkp); (try clear ho0)) | ((with_reducible refine gate_dst (N := 8) rfl ?_); refine box_event ?hg (N := 8) ?hd (cs := #[.int .i64 0, .slice none 0 0]) (t := 29) ?hr ?_; (case hd => rfl); (case hg => rfl); (case hr => first | (go_simp; done) | (go_simp; rfl)); intro gb119 hg w57 hbox hb; have n0_ := rb HO117 hb; have n1_ := bb BK101 hb; have n2_ := bb BK102 hb; have n3_ := bs2 HB hb GE101 GE102; have n4_ := Aside0.mk (hbox); have n5_ := bz2 hg HB GE101 GE102; have n6_ := bz2 hg HB GE101 GE102; have n7_ := nl hg BK101; have n8_ := ng hg BK101; have n9_ := nl hg BK102; have n10_ := ng hg BK102; clear HO117; clear BK101; clear BK102; clear HB; have HO117 := n0_; have BK101 := n1_; have BK102 := n2_; have HB := n3_; have BK119 := n4_; have GW119 := n5_; have GE119 := n6_; have NB101_119 := n7_; have NB119_101 := n8_; have NB102_119 := n9_; have NB119_102 := n10_; clear n0_ n1_ n2_ n3_ n4_ n5_ n6_ n7_ n8_ n9_ n10_; clear hb hbox hg; have hnb58 := NB119_101.out; have hnc58 := NB101_119.out; have hnb59 := NB119_102.out; have hnc59 := NB102_119.out; have hcz60_0 : w57.cell? ⟨gb119, 0, none⟩ = some (.int .i64 0) := (blk_cell BK119.out 0).trans rfl; have hcz60_1 : w57.cell? ⟨gb119, 1, none⟩ = some (.slice none 0 0) := (blk_cell BK119.out 1).trans rfl; have hfz60_0 := blk_frozen BK119.out 0; have hfz60_1 := blk_frozen BK119.out 1; obtain ⟨Ao61, co61, eo61⟩ := Kd.R_slice HO117.out; subst eo61; have hcz62_0 : w57.cell? ⟨gb102, 0, none⟩ = some (.int .i64 0) := (blk_cell BK102.out 0).trans rfl; have hcz62_1 : w57.cell? ⟨gb102, 1, none⟩ = some (.slice none 0 0) := (blk_cell BK102.out 1).trans rfl; have hfz62_0 := blk_frozen BK102.out 0; have hfz62_1 := blk_frozen BK102.out 1))
     refine bodyPost_ret (results_ct rfl _ _ gb102 29 #[.int .i64 t114, .slice Ao61 t115.length co61] (0, 0) _ rfl (by (with_reducible repeat (first | refine blk_drewN ?_ _ | refine blk_drew ?_ | refine blk_alloc ?_ _)); refine blk_put (cs := #[.int .i64 t114, .slice none 0 0]) ?_ 1 _ rfl; (with_reducible repeat (first | refine blk_drewN ?_ _ | refine blk_drew ?_ | refine blk_alloc ?_ _)); refine blk_put (cs := #[.int .i64 0, .slice none 0 0]) ?_ 0 _ rfl; (with_reducible repeat (first | refine blk_drewN ?_ _ | refine blk_drew ?_ | refine blk_alloc ?_ _)); refine blk_far ?_ NB102_119.out _; (with_reducible repeat (first | refine blk_drewN ?_ _ | refine blk_drew ?_ | refine blk_alloc ?_ _)); refine blk_far ?_ NB102_119.out _; (with_reducible repeat (first | refine blk_drewN ?_ _ | refine blk_drew ?_ | refine blk_alloc ?_ _)); exact BK102.out) Try.underlying29 rfl (by kernel_rfl)) rfl ?_
     exact ⟨_, by first | rfl | (simp [errW_none, errW_some] <;> rfl) | (simp [*, errW_none, errW_some] <;> rfl), by (with_reducible repeat (first | apply Kd.R_alloc | apply Kd.R_drewN | apply Kd.R_drew)); exact Kd.R_mono (Kd.R_far (p := ⟨gb102, 1, none⟩) (Kd.R_far (p := ⟨gb102, 0, none⟩) (Kd.R_far (p := ⟨gb119, 1, none⟩) (Kd.R_far (p := ⟨gb119, 0, none⟩) (Kd.R_types (Kd.R_types HO117.out BK119.out (by decide)) BK102.out (by decide)) (fun _ hk => hk.1.2) (.int .i64 t114)) (fun _ hk => hk.1.2) (.slice Ao61 t115.length co61)) (fun _ hk => hk.2) (.int .i64 t114)) (fun _ hk => hk.2) (.slice Ao61 t115.length co61)) (fun _ hk => trivial), by repeat (first | (with_reducible first | exact HB.out | apply below_alloc | apply pw_below_drewN | apply below_drew1 | refine below_set ?_ GE101.out | refine below_set ?_ GE102.out | refine below_set ?_ GE119.out) | exact HB.out)⟩

end Go.Proofs.Yteagogcpbcickaa.G
