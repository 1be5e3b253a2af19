-- texts of this session, merged by a program of it (wip/gen/pack.py)
import Derived.Test.YteagogcpbcickaaKFnExactGraphOf10
import Derived.Test.YteagogcpbcickaaKFnExactGraphOf4
import Derived.Test.YteagogcpbcickaaKFnExactGraphOf5
import Derived.Test.YteagogcpbcickaaKFnExactGraphOf8
import Derived.Test.YteagogcpbcickaaKFnExactGraphOf9
import Derived.ProofKit
import Derived.WalkKit
import Derived.Deep.Slices
import Derived.OpenShut
import Derived.ChangeVars
import Derived.ChangeOld
import Derived.Below
import Derived.Test.YteagogcpbcickaaKFnExactGraphOf1
import Derived.Test.YteagogcpbcickaaRows
import Derived.ShutString
set_option linter.unusedSimpArgs false
set_option linter.unusedVariables false
namespace Go.Proofs.Yteagogcpbcickaa.Pure
open Go.RowKit Go.Proofs.Yteagogcpbcickaa.G Go.Proofs.Yteagogcpbcickaa.Mp Go.Proofs.YteagogcpbcickaaW.PrintWords Go.Proofs.YteagogcpbcickaaW.PrintLast Go.Proofs.YteagogcpbcickaaW.PrintMore
theorem pickR_dist {ins : Int} {L : List S79} (hD : Dist L) (x p q : Int) : Dist (pickR ins L x p q).1 := by
  unfold pickR
  split
  · exact andR_dist hD _ _
  split
  · exact andR_dist (andR_dist hD _ _) _ _
  exact orR_dist (andR_dist (andR_dist hD _ _) _ _) _ _
def knownL (l : List Bool) : Int := if l.contains true then (if l.contains false then -1 else 1) else 0
theorem knownL_bd (l : List Bool) : -1 ≤ knownL l ∧ knownL l ≤ 1 := by
  unfold knownL
  split
  · split <;> decide
  · decide
theorem known_one {l : List Bool} (h : l.length = 1) : 0 ≤ knownL l := by
  obtain ⟨a, rfl⟩ := List.length_eq_one_iff.1 h
  cases a <;> decide
def wireR (ins : Int) : Nat → List Bool → List S79 → Int → List S79 × Int
  | 0, l, L, _ => (L, knownL l)
  | n + 1, l, L, i => if 0 ≤ knownL l then (L, knownL l) else
    if (wireR ins n (halfL l false) L (i + 1)).2 < 0 then wireR ins n (halfL l false) L (i + 1) else
    if halfL l false = halfL l true then wireR ins n (halfL l false) L (i + 1) else
    if (wireR ins n (halfL l true) (wireR ins n (halfL l false) L (i + 1)).1 (i + 1)).2 < 0 then ((wireR ins n (halfL l true) (wireR ins n (halfL l false) L (i + 1)).1 (i + 1)).1, -1) else
    pickR ins (wireR ins n (halfL l true) (wireR ins n (halfL l false) L (i + 1)).1 (i + 1)).1 (2 * (i + 1)) (wireR ins n (halfL l true) (wireR ins n (halfL l false) L (i + 1)).1 (i + 1)).2 (wireR ins n (halfL l false) L (i + 1)).2
theorem wireR_bd {ins : Int} (hin : 0 ≤ ins ∧ ins ≤ 1000) : ∀ (n : Nat) (l : List Bool) (L : List S79) (i : Int), 0 ≤ i → i + n ≤ 1000 → L.length ≤ 3000 → Dist L →
    (-1 ≤ (wireR ins n l L i).2 ∧ (wireR ins n l L i).2 ≤ 1048575) ∧ (wireR ins n l L i).1.length ≤ 3000 ∧ Dist (wireR ins n l L i).1 := by
  intro n
  induction n with
  | zero =>
    intro l L i h0 h1 hL hD
    have hb := knownL_bd l
    simp only [wireR]
    exact ⟨by omega, hL, hD⟩
  | succ m ih =>
    intro l L i h0 h1 hL hD
    have hb := knownL_bd l
    have a := ih (halfL l false) L (i + 1) (by omega) (by omega) hL hD
    have b := ih (halfL l true) _ (i + 1) (by omega) (by omega) a.2.1 a.2.2
    simp only [wireR]
    generalize wireR ins m (halfL l false) L (i + 1) = ra at a b
    generalize wireR ins m (halfL l true) ra.1 (i + 1) = rb at b
    split
    · exact ⟨by dsimp only; omega, hL, hD⟩
    split
    · exact a
    split
    · exact a
    split
    · exact ⟨by dsimp only; omega, b.2⟩
    have p := pickR_bd (x := 2 * (i + 1)) (p := rb.2) (q := ra.2) hin b.2.1 (by omega) (by omega) (by omega)
    exact ⟨p.1, p.2, pickR_dist b.2.2 _ _ _⟩
theorem wireF_ev {ins : Int} (hin : 0 ≤ ins ∧ ins ≤ 1000) : ∀ (n : Nat) (l : List Bool) (L : List S79) (i : Int), n ≤ 12 → l.length = 2 ^ n → 0 ≤ i → i + n ≤ 1000 → L.length ≤ 3000 → Dist L →
    Ev (fun k => wireF k ins L (n : Int) (ones l) i) (wireR ins n l L i) := by
  intro n
  induction n with
  | zero =>
    intro l L i hn hl hi hin2 hL hD
    have hk := known_one (l := l) (by simpa using hl)
    refine ev_step (f := fun _ => some (L, knownL l)) (fun k => ?_) (ev_some _)
    simp only [wireF, impl_Table_known_eq, Option.bind_some]
    exact if_pos hk
  | succ m ih =>
    intro l L i hn hl hi hin2 hL hD
    have a := wireR_bd hin m (halfL l false) L (i + 1) (by omega) (by omega) hL hD
    have ea := ih (halfL l false) L (i + 1) (by omega) (halfL_len hl _) (by omega) (by omega) hL hD
    have b := wireR_bd hin m (halfL l true) _ (i + 1) (by omega) (by omega) a.2.1 a.2.2
    have eb := ih (halfL l true) _ (i + 1) (by omega) (halfL_len hl _) (by omega) (by omega) a.2.1 a.2.2
    have hw1 : wrap64 (i + 1) = i + 1 := w64 (by omega) (by omega)
    have hw2 : wrap64 (2 * (i + 1)) = 2 * (i + 1) := w64 (by omega) (by omega)
    simp only [wireR]
    generalize wireR ins m (halfL l false) L (i + 1) = ra at a b ea eb
    generalize wireR ins m (halfL l true) ra.1 (i + 1) = rb at b eb
    by_cases c1 : 0 ≤ knownL l
    · rw [if_pos c1]
      refine ev_step (f := fun _ => some (L, knownL l)) (fun k => ?_) (ev_some _)
      simp only [wireF, impl_Table_known_eq, Option.bind_some]
      exact if_pos c1
    rw [if_neg c1]
    refine ev_step (f := fun k => (wireF k ins L (m : Int) (ones (halfL l false)) (i + 1)).bind fun a =>
      if a.2 < 0 then some a else if (ones (halfL l false)).toList = (ones (halfL l true)).toList then some a else
      if a.2 ≤ 1048575 ∧ a.1.length ≤ 3000 then (wireF k ins a.1 (m : Int) (ones (halfL l true)) (i + 1)).bind fun b =>
        if b.2 < 0 then some (b.1, -1) else if b.2 ≤ 1048575 ∧ b.1.length ≤ 3000 then some (pickR ins b.1 (2 * (i + 1)) b.2 a.2) else none
      else none) (fun k => ?_) ?_
    · simp only [wireF, impl_Table_known_eq, impl_half_eq m l (by omega) hl, Option.bind_some, hw1, hw2]
      refine (if_neg c1).trans ?_
      rw [if_pos (by omega)]
      rfl
    refine ev_bind ea ?_
    by_cases c2 : ra.2 < 0
    · simp only [if_pos c2]; exact ev_some _
    simp only [if_neg c2]
    by_cases c3 : halfL l false = halfL l true
    · rw [if_pos c3, c3]; simp only [if_true]; exact ev_some _
    rw [if_neg c3]
    simp only [if_neg (show ¬ (ones (halfL l false)).toList = (ones (halfL l true)).toList from fun h => c3 (ones_inj (toList_inj.1 h)))]
    simp only [if_pos (show ra.2 ≤ 1048575 ∧ ra.1.length ≤ 3000 from ⟨a.1.2, a.2.1⟩)]
    refine ev_bind eb ?_
    by_cases c4 : rb.2 < 0
    · simp only [if_pos c4]; exact ev_some _
    simp only [if_neg c4, if_pos (show rb.2 ≤ 1048575 ∧ rb.1.length ≤ 3000 from ⟨b.1.2, b.2.1⟩)]
    exact ev_some _
theorem knownT_ones {n : Nat} {l : List Bool} (hn : n ≤ 12) (hl : l.length = 2 ^ n) : knownT (n : Int) (ones l) = knownL l := by
  unfold knownT
  rw [tok_ones hn hl, flags_ones, if_pos rfl]
  rfl
theorem l07Table_step (k : Nat) (ins : Int) (L : List S79) (N : Int) (s : ByteArray) (i : Int) : spec_l07Table.f (k + 1) ins L N s i =
    ((spec_Known.f k N s).bind fun t104 =>
      if t104 ≥ 0 then some (ins, L, t104)
      else
        (spec_Half.f k N s 0).bind fun bt105 =>
          (spec_Half.f k N s 1).bind fun bt109 =>
            if (bt105.1 == bt109.1 && bt105.2.1.toList == bt109.2.1.toList) = true then
              (spec_l07Table.f k ins L bt105.1 bt105.2.1 (wrap64 (i + 1))).bind fun bt113 =>
                some (bt113.1, bt113.2.1, bt113.2.2)
            else
              (spec_l07Table.f k ins L bt105.1 bt105.2.1 (wrap64 (i + 1))).bind fun bt118 =>
                if bt118.2.2 < 0 then some (bt118.1, bt118.2.1, -1)
                else
                  (spec_l07Table.f k bt118.1 bt118.2.1 bt109.1 bt109.2.1 (wrap64 (i + 1))).bind fun bt124 =>
                    if bt124.2.2 < 0 then some (bt124.1, bt124.2.1, -1)
                    else
                      (spec_l07If.f k bt124.1 bt124.2.1 (wrap64 (2 * wrap64 (i + 1))) bt124.2.2 bt118.2.2).bind
                        fun bt130 => some (bt130.1, bt130.2.1, bt130.2.2)) := by simp only [spec_l07Table.f]
theorem spec_table_ev {ins : Int} (hin : 0 ≤ ins ∧ ins ≤ 1000) : ∀ (n : Nat) (l : List Bool) (L : List S79) (i : Int), n ≤ 12 → l.length = 2 ^ n → 0 ≤ i → i + n ≤ 1000 → L.length ≤ 3000 → Dist L →
    Ev (fun k => spec_l07Table.f k ins L (n : Int) (ones l) i) (ins, (wireR ins n l L i).1, (wireR ins n l L i).2) := by
  intro n
  induction n with
  | zero =>
    intro l L i hn hl hi hin2 hL hD
    have hk := known_one (l := l) (by simpa using hl)
    have hs : (ones l).size ≤ 1099511627776 := by rw [ones_size, hl]; decide
    have hkn := ev_ge _ (spec_Known_eq ((0 : Nat) : Int) (ones l) hs)
    rw [knownT_ones (n := 0) (by omega) hl] at hkn
    refine ev_step (fun k => l07Table_step k _ _ _ _ _) ?_
    refine ev_bind hkn ?_
    simp only [if_pos (show knownL l ≥ 0 from hk), wireR]
    exact ev_some _
  | succ m ih =>
    intro l L i hn hl hi hin2 hL hD
    have a := wireR_bd hin m (halfL l false) L (i + 1) (by omega) (by omega) hL hD
    have ea := ih (halfL l false) L (i + 1) (by omega) (halfL_len hl _) (by omega) (by omega) hL hD
    have b := wireR_bd hin m (halfL l true) _ (i + 1) (by omega) (by omega) a.2.1 a.2.2
    have eb := ih (halfL l true) _ (i + 1) (by omega) (halfL_len hl _) (by omega) (by omega) a.2.1 a.2.2
    have hp := pow12 (n := m + 1) (by omega)
    have hs : (ones l).size ≤ 1099511627776 := by rw [ones_size, hl]; omega
    have hw1 : wrap64 (i + 1) = i + 1 := w64 (by omega) (by omega)
    have hw2 : wrap64 (2 * (i + 1)) = 2 * (i + 1) := w64 (by omega) (by omega)
    have hkn := ev_ge _ (spec_Known_eq ((m + 1 : Nat) : Int) (ones l) hs)
    rw [knownT_ones (n := m + 1) (by omega) hl] at hkn
    have hh : ∀ h : Int, (h = 0 ∨ h = 1) → halfT ((m + 1 : Nat) : Int) (ones l) h = ((m : Int), ones (halfL l (h == 1)), true) := by
      intro h hh
      unfold halfT
      rw [tok_ones (by omega) hl, show (((m + 1 : Nat) : Int) != 0) = true from by rw [bne_iff_ne]; omega, show (h == 0 || h == 1) = true from by simpa using hh, if_pos (by decide), flags_ones, show ((m + 1 : Nat) : Int) - 1 = (m : Int) by omega]
    have h0 := ev_ge _ (spec_Half_eq ((m + 1 : Nat) : Int) (ones l) 0 hs)
    have h1 := ev_ge _ (spec_Half_eq ((m + 1 : Nat) : Int) (ones l) 1 hs)
    rw [hh 0 (.inl rfl)] at h0
    rw [hh 1 (.inr rfl)] at h1
    have e0 : ((0 : Int) == 1) = false := rfl
    have e1 : ((1 : Int) == 1) = true := rfl
    rw [e0] at h0
    rw [e1] at h1
    simp only [wireR]
    generalize wireR ins m (halfL l false) L (i + 1) = ra at a b ea eb
    generalize wireR ins m (halfL l true) ra.1 (i + 1) = rb at b eb
    obtain ⟨ra1, ra2⟩ := ra
    obtain ⟨rb1, rb2⟩ := rb
    dsimp only at *
    refine ev_step (fun k => l07Table_step k _ _ _ _ _) ?_
    refine ev_bind hkn ?_
    by_cases c1 : 0 ≤ knownL l
    · simp only [if_pos (show knownL l ≥ 0 from c1), if_pos c1]
      exact ev_some _
    simp only [if_neg (show ¬ knownL l ≥ 0 from c1), if_neg c1]
    refine ev_bind h0 ?_
    refine ev_bind h1 ?_
    dsimp only
    rw [hw1, hw2]
    by_cases c3 : halfL l false = halfL l true
    · simp only [c3, beq_self_eq_true, Bool.and_self, if_true]
      rw [c3] at ea
      by_cases c2 : ra2 < 0
      · simp only [if_pos c2]
        refine ev_bind ea (ev_some _)
      · simp only [if_neg c2]
        refine ev_bind ea (ev_some _)
    · have hne : (((m : Int) == (m : Int)) && ((ones (halfL l false)).toList == (ones (halfL l true)).toList)) = false := by
        rw [Bool.and_eq_false_iff]
        exact .inr (beq_eq_false_iff_ne.2 fun h => c3 (ones_inj (toList_inj.1 h)))
      simp only [hne, Bool.false_eq_true, if_false, if_neg c3]
      refine ev_bind ea ?_
      by_cases c2 : ra2 < 0
      · simp only [if_pos c2, show ra2 = -1 by omega]
        exact ev_some _
      simp only [if_neg c2]
      refine ev_bind eb ?_
      by_cases c4 : rb2 < 0
      · simp only [if_pos c4]
        exact ev_some _
      simp only [if_neg c4]
      refine ev_bind (spec_if_ev hin b.2.1 b.2.2 ⟨by omega, by omega⟩ ⟨by omega, b.1.2⟩ ⟨by omega, a.1.2⟩) ?_
      exact ev_some _
theorem dist_nil : Dist ([] : List S79) := fun i j _ hj => absurd hj (Nat.not_lt_zero j)
def graphOfR (N : Int) (s : ByteArray) : Int × List S79 × Int := if tok N s = true then (if (wireR N N.toNat (flags s) [] 0).2 < 0 then (0, [], -1) else (N, (wireR N N.toNat (flags s) [] 0).1, (wireR N N.toNat (flags s) [] 0).2)) else (0, [], -1)
theorem graphOf_ev (N : Int) (s : ByteArray) (hs : s.size ≤ 1099511627776) : ∃ r : Int × List S79 × Int, r.2.1.length ≤ 3000 ∧ Ev (fun k => spec_GraphOf.f k N s) r ∧ Ev (fun k => impl_GraphOf.f k N s) r := by
  refine ⟨graphOfR N s, ?_⟩
  have hS := ev_ge _ (spec_TableOk_eq N s hs)
  have hI := ev_ge _ (impl_TableOk_eq N s hs)
  unfold graphOfR
  cases ht : tok N s with
  | false =>
    rw [ht] at hS hI
    refine ⟨by simp, ?_, ?_⟩
    · unfold spec_GraphOf.f
      exact ev_bind hS (ev_some _)
    · unfold impl_GraphOf.f
      exact ev_bind hI (ev_some _)
  | true =>
    rw [ht] at hS hI
    obtain ⟨n, l, rfl, hn, hl, rfl⟩ := tok_form ht
    rw [if_pos rfl, flags_ones, Int.toNat_natCast]
    have hin : 0 ≤ (n : Int) ∧ (n : Int) ≤ 1000 := by omega
    have hb := wireR_bd hin n l [] 0 (by omega) (by omega) (by simp) dist_nil
    have eS := spec_table_ev hin n l [] 0 hn hl (by omega) (by omega) (by simp) dist_nil
    have eI := wireF_ev hin n l [] 0 hn hl (by omega) (by omega) (by simp) dist_nil
    generalize wireR (n : Int) n l [] 0 = r at hb eS eI
    obtain ⟨R, v⟩ := r
    dsimp only at *
    refine ⟨by split <;> simp; omega, ?_, ?_⟩
    · unfold spec_GraphOf.f
      refine ev_bind hS ?_
      simp only [if_true]
      refine ev_bind eS ?_
      by_cases c : v < 0
      · simp only [if_pos c]; exact ev_some _
      · simp only [if_neg c]; exact ev_some _
    · unfold impl_GraphOf.f
      refine ev_bind hI ?_
      simp only [if_true, if_pos hin]
      refine ev_bind eI ?_
      by_cases c : v < 0
      · simp only [if_pos c]; exact ev_some _
      · simp only [if_neg c]; exact ev_some _
end Go.Proofs.Yteagogcpbcickaa.Pure
set_option linter.unusedSimpArgs false
set_option linter.unusedVariables false
namespace Go.Proofs.Yteagogcpbcickaa.Pure
open Go.RowKit Go.Proofs.Yteagogcpbcickaa.G Go.Proofs.Yteagogcpbcickaa.Mp Go.Proofs.YteagogcpbcickaaW.PrintWords Go.Proofs.YteagogcpbcickaaW.PrintLast Go.Proofs.YteagogcpbcickaaW.PrintMore
theorem FnExactGraphOf_pure : ∀ (a0_0 : Int) (a0_1 : ByteArray), ((Lit.int .i64 a0_0).wf = true ∧ a0_1.size ≤ maxLen) → ∃ k, laws_FnExactGraphOf.f k a0_0 a0_1 = some true := by
  intro N s ⟨hN, hs⟩
  unfold laws_FnExactGraphOf.f
  rw [szTable_eq N s hs]
  simp only [Option.bind_some]
  by_cases h : (s.size : Int) > 1048576
  · rw [if_pos h]; exact ⟨0, if_pos (by decide)⟩
  rw [if_neg h]
  simp only [if_neg (show ¬ 1048576 - (s.size : Int) < 0 by omega), laws_toTable.f, Option.bind_some]
  have hq := graphOf_ev N s (by omega)
  obtain ⟨⟨a, R, v⟩, hb, hS, hI⟩ := hq
  dsimp only at hb
  have he := ev_ge _ (eqGraph_self a R (by omega))
  have hm := markGraph_ev a R (by omega)
  have hh := heldGraph_ev a R.length (by omega)
  refine ev_rounds (ev_bind hS (ev_bind hI (ev_bind he ?_)))
  simp only [if_true, bne_self_eq_false]
  refine ev_step (fun k => by simp only [laws_FnExactGraphOf.j0]; rw [if_neg (by decide)]) ?_
  refine ev_bind hm (ev_bind hh ?_)
  simp only [if_neg (show ¬ ((1 + 2 * R.length : Nat) : Int) < 0 by omega), if_true, laws_toTable.f, Option.bind_some]
  refine ev_bind hI (ev_bind he ?_)
  simp only [if_true, bne_self_eq_false]
  refine ev_step (fun k => by simp only [laws_FnExactGraphOf.j1]; rw [if_neg (by decide)]) ?_
  refine ev_bind hh ?_
  simp only [if_neg (show ¬ ((1 + 2 * R.length : Nat) : Int) < 0 by omega), if_true]
  exact ev_some _
end Go.Proofs.Yteagogcpbcickaa.Pure
namespace Go.Proofs.Yteagogcpbcickaa.Open
open Go.Deep Go.ChangeShapes Go.WideShapes Go.RowKit Go.Proofs.YteagogcpbcickaaW.PrintWords
def Opens {α : Type} (P : Program) (t : TypeId) (d : Kd α) (ok : α → Prop) : Prop :=
  ∀ (H : Type) (enc : TypeId × Value → H) (w : World) (base : Nat) (spare : Nat → Bool) (held : Bool) (fuel : Nat) (cs : List Value) (x : DataW H × List MemPlace),
    DataW.trod enc P w base spare held fuel t cs = some x → ∃ a, d.K w a cs ∧ ok a
def FOpens {α : Type} (P : Program) (fs : List Field) (off : Nat) (d : Kd α) (ok : α → Prop) : Prop :=
  ∀ (H : Type) (enc : TypeId × Value → H) (w : World) (base : Nat) (spare : Nat → Bool) (held : Bool) (fuel : Nat) (cs : List Value),
    (∀ f ∈ fs, ∃ x, DataW.trod enc P w base spare held fuel f.type ((cs.drop f.offset).take (P.cellsOf f.type)) = some x) → ∃ a, d.K w a ((cs.drop off).take d.sz) ∧ ok a
theorem opens_int {P : Program} {t : TypeId} {k : IntKind} (hu : P.underlying t = some (.int k)) : Opens P t (Kd.int k) (fun a => (Lit.int k a).wf = true) := by
  intro H enc w base spare held fuel cs x h
  obtain ⟨n, rfl, _, hw⟩ := DataW.trod_int hu h
  exact ⟨n, rfl, hw⟩
theorem opens_string {P : Program} {t : TypeId} (hu : P.underlying t = some .string) : Opens P t Kd.string (fun s => s.size ≤ maxLen) := by
  intro H enc w base spare held fuel cs x h
  obtain ⟨n, rfl, _, hw⟩ := DataW.trod_string hu h
  exact ⟨n, rfl, hw⟩
theorem fopens_one {α : Type} {P : Program} {f : Field} {off : Nat} {d : Kd α} {ok : α → Prop} (ho : f.offset = off) (hc : P.cellsOf f.type = d.sz) (h : Opens P f.type d ok) : FOpens P [f] off d ok := by
  intro H enc w base spare held fuel cs hx
  obtain ⟨x, hx⟩ := hx f (by simp)
  rw [ho, hc] at hx
  exact h H enc w base spare held fuel _ x hx
theorem fopens_cons {α β : Type} {P : Program} {f : Field} {fs : List Field} {off : Nat} {d : Kd α} {d' : Kd β} {ok : α → Prop} {ok' : β → Prop} (ho : f.offset = off) (hc : P.cellsOf f.type = d.sz) (h : Opens P f.type d ok)
    (hs : FOpens P fs (off + d.sz) d' ok') : FOpens P (f :: fs) off (Kd.pair d d') (fun x => ok x.1 ∧ ok' x.2) := by
  intro H enc w base spare held fuel cs hx
  obtain ⟨a, ha, hoa⟩ := fopens_one ho hc h H enc w base spare held fuel cs (fun g hg => hx g (by simp at hg; simp [hg]))
  obtain ⟨b, hb, hob⟩ := hs H enc w base spare held fuel cs (fun g hg => hx g (by simp [hg]))
  refine ⟨(a, b), ⟨_, _, ?_, ha, hb⟩, hoa, hob⟩
  show (cs.drop off).take (d.sz + d'.sz) = _
  rw [List.take_add, List.drop_drop]
theorem opens_struct {α : Type} {P : Program} {t : TypeId} {fs : Array Field} {d : Kd α} {ok : α → Prop} (hu : P.underlying t = some (.struct fs)) (hc : P.cellsOf t = d.sz) (h : FOpens P fs.toList 0 d ok) : Opens P t d ok := by
  intro H enc w base spare held fuel cs x hx
  obtain ⟨xs, n, rfl, _, hlen, hxl, hf⟩ := DataW.trod_struct hu hx
  have := h H enc w base spare held n cs (fun f hm => by
    obtain ⟨i, hi, rfl⟩ := List.getElem_of_mem hm
    have hi' : i < fs.size := by simpa using hi
    have e := hf i fs[i] (Array.getElem?_eq_getElem hi')
    rw [List.getElem?_eq_getElem (show i < xs.length by omega)] at e
    exact ⟨_, by simpa using e⟩)
  rw [List.drop_zero, List.take_of_length_le (by omega)] at this
  exact this
theorem agg_of_cells {P : Program} {w : World} {r : Reach} {base : Nat} {t : TypeId} {fs : Array Field} {v : Value} {cs : List Value} (hu : P.underlying t = some (.struct fs)) (hv : Value.okWide P w r base t v) (hc : v.cells.toList = cs) : v = .agg cs.toArray := by
  obtain ⟨c, rfl, _⟩ := okWide_struct hu hv
  simp only [Value.cells] at hc
  subst hc
  simp
end Go.Proofs.Yteagogcpbcickaa.Open
/- The statement FnExactGraphOfSaid of the law FnExactGraphOf: for every input the call returns true and its arguments read as before. Conditions: none. (Written by a program of this session: wip/gen/row.py.) -/
namespace Go.Proofs.Yteagogcpbcickaa.fnExactGraphOf
open Go.ChangeShapes Go.WideShapes Go.ChangeAt Go.RowKit Go.Proofs.Yteagogcpbcickaa.Open Go.Proofs.Yteagogcpbcickaa.G Go.Proofs.YteagogcpbcickaaW.PrintWords
open Go.ChangeMaps (open_string shut_string)
set_option linter.unusedVariables false
theorem own : ownKnob Try.prog.godebug = none := by kernel_rfl
theorem laidOut : laidOutB Try.prog = true := by kernel_rfl
set_option maxRecDepth 100000 in
theorem lifted (os : Os) (started : os.Started) (H : Type) (enc : TypeId × Value → H) :
    ReturnsInHanded {} Try.checked os 10 .any (Rows.fnExactGraphOfSpec.pre6 enc Try.prog Try.f10 Rows.fnExactGraphOfRow.domain false) (Rows.fnExactGraphOfSpec.post enc Try.prog Try.f10 false true false false) := by
  refine returnsInHanded_of_change (C := Try.checked) own started (by kernel_rfl) Try.func10
    (ChangeSpec.witness6 (enc := enc) (C := Try.checked) false ⟨#[], #[.agg #[.int .i64 0, .string ByteArray.empty]], []⟩ 8 (by kernel_rfl) (by kernel_rfl) (by kernel_rfl) (by kernel_rfl)) ?_
  intro W base args ds gs before hval0 hW hcnd _
  have hval : ∀ (j : Nat) t v, Try.f10.params[j]? = some t → args[j]? = some v → Value.okWide Try.prog W .any base t v := hval0
  have hW' := hW
  obtain ⟨p, q, hA0, hV, rfl, hfz, hnd⟩ := hW
  have hA : DataW.TrodAll enc Try.prog W 0 (fun _ => true) true Try.f10.params.toList args.toList ds p := hA0
  rw [Try.params10] at hA hval
  obtain ⟨v0, vs0, d0, ds0, p0, q0, hargs, rfl, rfl, h0, r0⟩ := trodAll_cons hA
  obtain ⟨rfl, rfl, rfl⟩ := trodAll_nil r0
  obtain rfl : args = #[v0] := by cases args; simp_all
  obtain ⟨rfl, rfl⟩ := trodVars_none hV
  have k0 := h0
  have lt0 : ∀ x ∈ p0, x.block < W.heap.size := by obtain ⟨m, hm⟩ := k0; exact DataW.trod_lt m _ _ _ hm
  obtain ⟨fu0, hf0⟩ := h0
  obtain ⟨⟨a0_0, a0_1⟩, hk0, ok0⟩ := (opens_struct Try.underlying50 (by kernel_rfl) (fopens_cons rfl (by kernel_rfl) (opens_int Try.underlying3) (fopens_one rfl (by kernel_rfl) (opens_string Try.underlying9)))) _ enc W 0 _ true fu0 _ _ hf0
  generalize hcs0 : v0.cells.toList = cs0 at hk0
  obtain ⟨_, _, rfl, rfl, rfl⟩ := hk0
  obtain rfl := agg_of_cells Try.underlying50 (hval 0 50 v0 rfl rfl) hcs0
  clear hA0 hval0
  obtain ⟨k, hk⟩ := Pure.FnExactGraphOf_pure a0_0 a0_1 ok0
  refine (laws_FnExactGraphOf.calls k a0_0 a0_1 true W rfl hk).mono fun e W' ⟨he, bel0⟩ => ?_
  have bel : Below W.heap.size W W' := bel0
  subst he
  exact ⟨_, rfl, _, _, _, [], _, [], hW', trodAll_mk1 (shut_bool Try.underlying4 _), (trodAll_cons_mk (Below.trod laidOut (by kernel_rfl) (of_decide_eq_true (by kernel_rfl)) k0 bel lt0) trodAll_mk0), rfl, bel.frame _, fun h => by cases h⟩
theorem over : Rows.fnExactGraphOfRow.holds Try.pinned (OpenSpec.ofChange Rows.fnExactGraphOfSpec) :=
  OpenClaim.holds_of_wide 10 Try.f10 rfl rfl rfl rfl rfl rfl rfl ⟨rfl, rfl, rfl, rfl, rfl⟩ rfl rfl rfl rfl rfl (by kernel_rfl) Try.func10 (by kernel_rfl)
    (of_decide_eq_true (by kernel_rfl)) (by unfold Func.isWrapper; first | (rw [if_pos (by decide +kernel)]; kernel_rfl) | (rw [if_neg (by decide +kernel)]; exact ⟨rfl, rfl⟩))
    (fun os started H enc _ => lifted os started H enc)
theorem proved : Rows.FnExactGraphOfSaid := over
end Go.Proofs.Yteagogcpbcickaa.fnExactGraphOf
namespace Go.Proofs.Yteagogcpbcickaa
/-- The given statement. -/
theorem fnExactGraphOf_holds : Rows.FnExactGraphOfSaid := fnExactGraphOf.proved
#print axioms fnExactGraphOf_holds
end Go.Proofs.Yteagogcpbcickaa
