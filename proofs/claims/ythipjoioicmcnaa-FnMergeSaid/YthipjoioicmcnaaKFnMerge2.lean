-- texts of this session, merged by a program of it (wip/gen/pack.py)
import Derived.Test.YthipjoioicmcnaaKFnMerge1
import Derived.Test.YthipjoioicmcnaaWMore
import Derived.Test.YthipjoioicmcnaaWLast
import Derived.Test.YthipjoioicmcnaaWGuard
-- written by a program of this session (wip/gen/gen.py); Lean checks it
namespace Go.Proofs.Ythipjoioicmcnaa.G
open Go.RowKit Go.Proofs.YthipjoioicmcnaaW.PrintWords Go.Proofs.YthipjoioicmcnaaW.PrintLast Go.Proofs.YthipjoioicmcnaaW.PrintMore
attribute [local go_sem] max2_int min2_int max_two min_two max_three min_three max_four min_four   -- for this text's walks alone
set_option linter.unusedVariables false
set_option linter.unusedSimpArgs false

/-! ### impl_Table_needs: function 60 -/
def impl_Table_needs.l0 : Nat → Int → Int → Int → Int → ByteArray → Option (Bool)
  | 0, _, _, _, _, _ => none
  | k + 1, x5, x16, x17, x207000, x207001 => if x17 < x16 then (if (Go.bits .and .i64 x17 x5) = 0 then (if 0 ≤ x17 then (if x17 < (x207001.size : Int) then (if 0 ≤ (Go.bits .or .i64 x17 x5) then (if (Go.bits .or .i64 x17 x5) < (x207001.size : Int) then (if (bt x207001 x17) = (bt x207001 (Go.bits .or .i64 x17 x5)) then (impl_Table_needs.l0 k x5 x16 (wrap64 (x17 + 1)) x207000 x207001) else (some true)) else (none)) else (none)) else (none)) else (none)) else (impl_Table_needs.l0 k x5 x16 (wrap64 (x17 + 1)) x207000 x207001)) else (some false)
def impl_Table_needs.f (k : Nat) (a0_0 : Int) (a0_1 : ByteArray) (a1 : Int) : Option (Bool) := if 0 ≤ (IntKind.u64.wrap (wrap64 ((wrap64 (a0_0 - 1)) - a1))) then (impl_Table_needs.l0 k (shl .i64 1 (IntKind.u64.wrap (wrap64 ((wrap64 (a0_0 - 1)) - a1)))) (a0_1.size : Int) 0 a0_0 a0_1) else (none)
set_option maxHeartbeats 8000000 in
set_option maxRecDepth 100000 in
theorem impl_Table_needs.calls (k : Nat) (a0_0 : Int) (a0_1 : ByteArray) (a1 : Int) (r : Bool) (w : World) (h : impl_Table_needs.f k a0_0 a0_1 a1 = some r) :
    Calls Try.prog 60 #[.agg #[.int .i64 a0_0, .string a0_1], .int .i64 a1] w fun e w' => e = .returned (.bool r) ∧ Below w.heap.size w w' := by
  have hu26 := Try.underlying26
  have HB := Aside0.mk (Below.refl w.heap.size w)
  have H : (if 0 ≤ (IntKind.u64.wrap (wrap64 ((wrap64 (a0_0 - 1)) - a1))) then (impl_Table_needs.l0 k (shl .i64 1 (IntKind.u64.wrap (wrap64 ((wrap64 (a0_0 - 1)) - a1)))) (a0_1.size : Int) 0 a0_0 a0_1) else (none)) = some r := h
  clear h
  obtain ⟨ji3, hji3⟩ : ∃ j_ : Int, (IntKind.u64.wrap (wrap64 ((wrap64 (a0_0 - 1)) - a1))) = j_ := ⟨_, rfl⟩
  replace H : (if 0 ≤ (ji3) then (impl_Table_needs.l0 k (shl .i64 1 (ji3)) (a0_1.size : Int) 0 a0_0 a0_1) else (none)) = some r := by first | (rw [hji3] at H; exact H) | (simp only [hji3] at H ⊢; exact H)
  by_cases c4 : 0 ≤ (ji3)
  · rw [if_pos c4] at H
    have c4b0 := eq_true c4
    have c4b1 : decide (0 ≤ (ji3)) = true := decide_eq_true c4
    clear c4
    obtain ⟨ji5, hji5⟩ : ∃ j_ : Int, (shl .i64 1 (ji3)) = j_ := ⟨_, rfl⟩
    replace H : (impl_Table_needs.l0 k ji5 (a0_1.size : Int) 0 a0_0 a0_1) = some r := by first | (rw [hji5] at H; exact H) | (simp only [hji5] at H ⊢; exact H)
    have hji5_ : (IntKind.i64.wrap (1 * 2 ^ min (ji3).toNat 64)) = ji5 := hji5
    have hji5z : (ji3) ≤ 64 → (IntKind.i64.wrap (1 * 2 ^ (ji3).toNat)) = ji5 := shl_small hji5
    have hji5u : (IntKind.i64.wrap (2 ^ min (ji3).toNat 64)) = ji5 := by have h_ := hji5_; rw [Int.one_mul] at h_; exact h_
    have hji5v : (ji3) ≤ 64 → (IntKind.i64.wrap (2 ^ (ji3).toNat)) = ji5 := fun hle_ => by have h_ := hji5z hle_; rw [Int.one_mul] at h_; exact h_
    have hji5y : (wrap64 (1 * 2 ^ min (ji3).toNat 64)) = ji5 := (i64_w _).symm.trans hji5_
    have hji5x : (ji3) ≤ 64 → (wrap64 (1 * 2 ^ (ji3).toNat)) = ji5 := fun h_ => (i64_w _).symm.trans (hji5z h_)
    have H' := Aside0.mk H
    clear H
    go_enter Try.func60, Try.ntmps60
    go_wp2_with (first | ((with_reducible refine gate_dst (N := 2) rfl ?_); refine box_event ?hg (N := 2) ?hd (cs := #[.int .i64 a0_0, .string a0_1]) (t := 26) ?hr ?_; (case hd => rfl); (case hg => rfl); (case hr => first | (go_simp; done) | (go_simp; rfl)); intro gb206 hg w6 hbox hb; have n0_ := Aside0.mk (below_step (by repeat (first | (with_reducible first | exact HB.out | apply below_alloc | apply pw_below_drewN | apply below_drew1) | exact HB.out)) hb); have n1_ := Aside0.mk (hbox); have n2_ := Aside0.mk ((by rw [hg]; exact (below_size (by repeat (first | (with_reducible first | exact HB.out | apply below_alloc | apply pw_below_drewN | apply below_drew1) | exact HB.out))) : w.heap.size ≤ gb206)); have n3_ := Aside0.mk ((by rw [hg]; exact (below_size (by repeat (first | (with_reducible first | exact HB.out | apply below_alloc | apply pw_below_drewN | apply below_drew1) | exact HB.out))) : w.heap.size ≤ gb206)); clear HB; have HB := n0_; have BK206 := n1_; have GW206 := n2_; have GE206 := n3_; clear n0_ n1_ n2_ n3_; clear hb hbox hg; have hcz7_0 : w6.cell? ⟨gb206, 0, none⟩ = some (.int .i64 a0_0) := (blk_cell BK206.out 0).trans rfl; have hcz7_1 : w6.cell? ⟨gb206, 1, none⟩ = some (.string a0_1) := (blk_cell BK206.out 1).trans rfl; have hfz7_0 := blk_frozen BK206.out 0; have hfz7_1 := blk_frozen BK206.out 1))
    repeat (go_quiet (first | ((with_reducible refine gate_dst (N := 2) rfl ?_); refine box_event ?hg (N := 2) ?hd (cs := #[.int .i64 a0_0, .string a0_1]) (t := 26) ?hr ?_; (case hd => rfl); (case hg => rfl); (case hr => first | (go_simp; done) | (go_simp; rfl)); intro gb206 hg w6 hbox hb; have n0_ := Aside0.mk (below_step (by repeat (first | (with_reducible first | exact HB.out | apply below_alloc | apply pw_below_drewN | apply below_drew1) | exact HB.out)) hb); have n1_ := Aside0.mk (hbox); have n2_ := Aside0.mk ((by rw [hg]; exact (below_size (by repeat (first | (with_reducible first | exact HB.out | apply below_alloc | apply pw_below_drewN | apply below_drew1) | exact HB.out))) : w.heap.size ≤ gb206)); have n3_ := Aside0.mk ((by rw [hg]; exact (below_size (by repeat (first | (with_reducible first | exact HB.out | apply below_alloc | apply pw_below_drewN | apply below_drew1) | exact HB.out))) : w.heap.size ≤ gb206)); clear HB; have HB := n0_; have BK206 := n1_; have GW206 := n2_; have GE206 := n3_; clear n0_ n1_ n2_ n3_; clear hb hbox hg; have hcz7_0 : w6.cell? ⟨gb206, 0, none⟩ = some (.int .i64 a0_0) := (blk_cell BK206.out 0).trans rfl; have hcz7_1 : w6.cell? ⟨gb206, 1, none⟩ = some (.string a0_1) := (blk_cell BK206.out 1).trans rfl; have hfz7_0 := blk_frozen BK206.out 0; have hfz7_1 := blk_frozen BK206.out 1)); try go_wp2_with (first | ((with_reducible refine gate_dst (N := 2) rfl ?_); refine box_event ?hg (N := 2) ?hd (cs := #[.int .i64 a0_0, .string a0_1]) (t := 26) ?hr ?_; (case hd => rfl); (case hg => rfl); (case hr => first | (go_simp; done) | (go_simp; rfl)); intro gb206 hg w6 hbox hb; have n0_ := Aside0.mk (below_step (by repeat (first | (with_reducible first | exact HB.out | apply below_alloc | apply pw_below_drewN | apply below_drew1) | exact HB.out)) hb); have n1_ := Aside0.mk (hbox); have n2_ := Aside0.mk ((by rw [hg]; exact (below_size (by repeat (first | (with_reducible first | exact HB.out | apply below_alloc | apply pw_below_drewN | apply below_drew1) | exact HB.out))) : w.heap.size ≤ gb206)); have n3_ := Aside0.mk ((by rw [hg]; exact (below_size (by repeat (first | (with_reducible first | exact HB.out | apply below_alloc | apply pw_below_drewN | apply below_drew1) | exact HB.out))) : w.heap.size ≤ gb206)); clear HB; have HB := n0_; have BK206 := n1_; have GW206 := n2_; have GE206 := n3_; clear n0_ n1_ n2_ n3_; clear hb hbox hg; have hcz7_0 : w6.cell? ⟨gb206, 0, none⟩ = some (.int .i64 a0_0) := (blk_cell BK206.out 0).trans rfl; have hcz7_1 : w6.cell? ⟨gb206, 1, none⟩ = some (.string a0_1) := (blk_cell BK206.out 1).trans rfl; have hfz7_0 := blk_frozen BK206.out 0; have hfz7_1 := blk_frozen BK206.out 1)))
    go_loopg [17] k (fun kq v17 w' => ∃ (x17_1 : Int), v17 = .int .i64 x17_1 ∧ Aside0 (impl_Table_needs.l0 kq ji5 (a0_1.size : Int) x17_1 a0_0 a0_1 = some r) ∧ Aside0 (kq ≤ k) ∧ Aside0 (w'.heap[gb206]? = some (.cells #[.int .i64 a0_0, .string a0_1] 26 (0, 0))) ∧ Aside0 (Below w.heap.size w w'))
    case atStart => exact ⟨(0), (by first | rfl | (simp; done) | (simp [*]; done)), H', ⟨Nat.le_refl _⟩, ⟨by (with_reducible repeat (first | refine blk_drewN ?_ _ | refine blk_drew ?_ | refine blk_alloc ?_ _)); exact BK206.out⟩, ⟨by repeat (first | (with_reducible first | exact HB.out | apply below_alloc | apply pw_below_drewN | apply below_drew1 | refine below_set ?_ GE206.out) | exact HB.out)⟩⟩
    case round =>
      clear H'
      try clear p2
      try clear c4
      try clear c4b0
      try clear c4b1
      try clear c6
      try clear p6
      try clear hcz7_0
      try clear hcz7_1
      try clear hfz7_0
      try clear hfz7_1
      obtain ⟨x17_1, rfl, HA, HK1, BK206, HB⟩ := hrel
      cases gk with
      | zero => exact absurd HA.out (by simp [impl_Table_needs.l0])
      | succ k1 =>
        have H := HA.out
        clear HA
        simp only [impl_Table_needs.l0] at H
        by_cases c8 : x17_1 < (a0_1.size : Int)
        · rw [if_pos c8] at H
          have c8b0 : decide (x17_1 < (a0_1.size : Int)) = true := decide_eq_true c8
          clear c8
          by_cases c9 : (Go.bits .and .i64 x17_1 ji5) = 0
          · rw [if_pos c9] at H
            have c9b0 : ((Go.bits .and .i64 x17_1 ji5) == 0) = true := beq_iff_eq.mpr c9
            have c9b1 : ((Go.bits .and .i64 x17_1 ji5) != 0) = false := bne_eq_false_iff_eq.mpr c9
            clear c9
            by_cases c10 : 0 ≤ x17_1
            · rw [if_pos c10] at H
              have c10b0 : decide (0 ≤ x17_1) = true := decide_eq_true c10
              clear c10
              by_cases c11 : x17_1 < (a0_1.size : Int)
              · rw [if_pos c11] at H
                have c11b0 : decide (x17_1 < (a0_1.size : Int)) = true := decide_eq_true c11
                clear c11
                by_cases c13 : 0 ≤ (Go.bits .or .i64 x17_1 ji5)
                · rw [if_pos c13] at H
                  have c13b0 : decide (0 ≤ (Go.bits .or .i64 x17_1 ji5)) = true := decide_eq_true c13
                  clear c13
                  by_cases c14 : (Go.bits .or .i64 x17_1 ji5) < (a0_1.size : Int)
                  · rw [if_pos c14] at H
                    have c14b0 : decide ((Go.bits .or .i64 x17_1 ji5) < (a0_1.size : Int)) = true := decide_eq_true c14
                    clear c14
                    by_cases c16 : (bt a0_1 x17_1) = (bt a0_1 (Go.bits .or .i64 x17_1 ji5))
                    · rw [if_pos c16] at H
                      have c16b0 : ((bt a0_1 x17_1) == (bt a0_1 (Go.bits .or .i64 x17_1 ji5))) = true := beq_iff_eq.mpr c16
                      have c16b1 : ((bt a0_1 x17_1) != (bt a0_1 (Go.bits .or .i64 x17_1 ji5))) = false := bne_eq_false_iff_eq.mpr c16
                      clear c16
                      have H' := Aside0.mk H
                      clear H
                      have hcz17_0 : wr.cell? ⟨gb206, 0, none⟩ = some (.int .i64 a0_0) := (blk_cell BK206.out 0).trans rfl
                      have hcz17_1 : wr.cell? ⟨gb206, 1, none⟩ = some (.string a0_1) := (blk_cell BK206.out 1).trans rfl
                      have hfz17_0 := blk_frozen BK206.out 0
                      have hfz17_1 := blk_frozen BK206.out 1
                      have p12 : 0 ≤ (x17_1 : Int) := of_decide_eq_true (by first | (with_reducible assumption) | assumption)
                      have q12 : x17_1 < (a0_1.size : Int) := of_decide_eq_true (by first | (with_reducible assumption) | assumption)
                      have hx12 := bt_at a0_1 x17_1
                      replace p12 := eq_true p12
                      replace q12 := eq_true q12
                      have p15 : 0 ≤ ((Go.bits .or .i64 x17_1 ji5) : Int) := of_decide_eq_true (by first | (with_reducible assumption) | assumption)
                      have q15 : (Go.bits .or .i64 x17_1 ji5) < (a0_1.size : Int) := of_decide_eq_true (by first | (with_reducible assumption) | assumption)
                      have hx15 := bt_at a0_1 (Go.bits .or .i64 x17_1 ji5)
                      replace p15 := eq_true p15
                      replace q15 := eq_true q15
                      go_wp2
                      repeat (go_quiet (fail); try go_wp2)
                      go_roundg k1
                      case measure => have := HK1.out; omega
                      case rel => exact ⟨(wrap64 (x17_1 + 1)), (by first | rfl | (simp; done) | (simp [*]; done)), H', ⟨by have := HK1.out; omega⟩, ⟨by (with_reducible repeat (first | refine blk_drewN ?_ _ | refine blk_drew ?_ | refine blk_alloc ?_ _)); exact BK206.out⟩, ⟨by repeat (first | (with_reducible first | exact HB.out | apply below_alloc | apply pw_below_drewN | apply below_drew1 | refine below_set ?_ GE206.out) | exact HB.out)⟩⟩
                    · rw [if_neg c16] at H
                      have c16b0 : ((bt a0_1 x17_1) == (bt a0_1 (Go.bits .or .i64 x17_1 ji5))) = false := beq_eq_false_iff_ne.mpr c16
                      have c16b1 : ((bt a0_1 x17_1) != (bt a0_1 (Go.bits .or .i64 x17_1 ji5))) = true := bne_iff_ne.mpr c16
                      obtain rfl := Option.some.inj H
                      have hcz18_0 : wr.cell? ⟨gb206, 0, none⟩ = some (.int .i64 a0_0) := (blk_cell BK206.out 0).trans rfl
                      have hcz18_1 : wr.cell? ⟨gb206, 1, none⟩ = some (.string a0_1) := (blk_cell BK206.out 1).trans rfl
                      have hfz18_0 := blk_frozen BK206.out 0
                      have hfz18_1 := blk_frozen BK206.out 1
                      have p12 : 0 ≤ (x17_1 : Int) := of_decide_eq_true (by first | (with_reducible assumption) | assumption)
                      have q12 : x17_1 < (a0_1.size : Int) := of_decide_eq_true (by first | (with_reducible assumption) | assumption)
                      have hx12 := bt_at a0_1 x17_1
                      replace p12 := eq_true p12
                      replace q12 := eq_true q12
                      have p15 : 0 ≤ ((Go.bits .or .i64 x17_1 ji5) : Int) := of_decide_eq_true (by first | (with_reducible assumption) | assumption)
                      have q15 : (Go.bits .or .i64 x17_1 ji5) < (a0_1.size : Int) := of_decide_eq_true (by first | (with_reducible assumption) | assumption)
                      have hx15 := bt_at a0_1 (Go.bits .or .i64 x17_1 ji5)
                      replace p15 := eq_true p15
                      replace q15 := eq_true q15
                      go_wp2
                      repeat (go_quiet (fail); try go_wp2)
                      go_ret
                      exact ⟨by first | rfl | (simp [errW_none, errW_some] <;> rfl) | (simp only [← hji3, ← hji5]; first | rfl | (simp [errW_none, errW_some] <;> rfl)) | (simp [*, errW_none, errW_some] <;> rfl), by repeat (first | (with_reducible first | exact HB.out | apply below_alloc | apply pw_below_drewN | apply below_drew1 | refine below_set ?_ GE206.out) | exact HB.out)⟩
                  · rw [if_neg c14] at H
                    exact absurd H (by simp)
                · rw [if_neg c13] at H
                  exact absurd H (by simp)
              · rw [if_neg c11] at H
                exact absurd H (by simp)
            · rw [if_neg c10] at H
              exact absurd H (by simp)
          · rw [if_neg c9] at H
            have c9b0 : ((Go.bits .and .i64 x17_1 ji5) == 0) = false := beq_eq_false_iff_ne.mpr c9
            have c9b1 : ((Go.bits .and .i64 x17_1 ji5) != 0) = true := bne_iff_ne.mpr c9
            have H' := Aside0.mk H
            clear H
            go_wp2
            repeat (go_quiet (fail); try go_wp2)
            go_roundg k1
            case measure => have := HK1.out; omega
            case rel => exact ⟨(wrap64 (x17_1 + 1)), (by first | rfl | (simp; done) | (simp [*]; done)), H', ⟨by have := HK1.out; omega⟩, ⟨by (with_reducible repeat (first | refine blk_drewN ?_ _ | refine blk_drew ?_ | refine blk_alloc ?_ _)); exact BK206.out⟩, ⟨by repeat (first | (with_reducible first | exact HB.out | apply below_alloc | apply pw_below_drewN | apply below_drew1 | refine below_set ?_ GE206.out) | exact HB.out)⟩⟩
        · rw [if_neg c8] at H
          have c8b0 : decide (x17_1 < (a0_1.size : Int)) = false := decide_eq_false c8
          clear c8
          obtain rfl := Option.some.inj H
          go_wp2
          repeat (go_quiet (fail); try go_wp2)
          go_ret
          exact ⟨by first | rfl | (simp [errW_none, errW_some] <;> rfl) | (simp only [← hji3, ← hji5]; first | rfl | (simp [errW_none, errW_some] <;> rfl)) | (simp [*, errW_none, errW_some] <;> rfl), by repeat (first | (with_reducible first | exact HB.out | apply below_alloc | apply pw_below_drewN | apply below_drew1 | refine below_set ?_ GE206.out) | exact HB.out)⟩
  · rw [if_neg c4] at H
    exact absurd H (by simp)

end Go.Proofs.Ythipjoioicmcnaa.G
-- written by a program of this session (wip/gen/gen.py); Lean checks it
namespace Go.Proofs.Ythipjoioicmcnaa.G
open Go.RowKit Go.Proofs.YthipjoioicmcnaaW.PrintWords Go.Proofs.YthipjoioicmcnaaW.PrintLast Go.Proofs.YthipjoioicmcnaaW.PrintMore
attribute [local go_sem] max2_int min2_int max_two min_two max_three min_three max_four min_four   -- for this text's walks alone
set_option linter.unusedVariables false
set_option linter.unusedSimpArgs false

/-! ### impl_Idle: function 14 -/
def impl_Idle.l0 : Nat → List Int → Int → Int → Int → ByteArray → Option (List Int)
  | 0, _, _, _, _, _ => none
  | k + 1, x5, x14, x15, x208000, x208001 => if x15 < x14 then ((impl_Table_needs.f k x208000 x208001 x15).bind fun t212 => (if t212 = true then (impl_Idle.l0 k x5 x14 (wrap64 (x15 + 1)) x208000 x208001) else (if x5.length < 17592186044416 then (impl_Idle.l0 k (x5 ++ [x15]) x14 (wrap64 (x15 + 1)) x208000 x208001) else (none)))) else (some x5)
def impl_Idle.f (k : Nat) (l0 : List Bool) (a1_0 : Int) (a1_1 : ByteArray) : Option (List Int) := (some (([] : List Int) : List Int)).bind fun y208 => ((impl_rowed.f k l0 a1_0 a1_1).bind fun t211 => (if t211 = true then (impl_Idle.l0 k y208 a1_0 0 a1_0 a1_1) else (some y208)))
set_option maxHeartbeats 8000000 in
set_option maxRecDepth 100000 in
theorem impl_Idle.calls (k : Nat) (A0 : Option Addr) (c0 : Nat) (l0 : List Bool) (a1_0 : Int) (a1_1 : ByteArray) (r : List Int) (w : World) (hr0 : Kd.C Kd.bool w A0 l0.length l0) (hc0 : l0.length ≤ c0) (h : impl_Idle.f k l0 a1_0 a1_1 = some r) :
    Calls Try.prog 14 #[.slice A0 l0.length c0, .agg #[.int .i64 a1_0, .string a1_1]] w fun e w' => ∃ v0_ : Value, e = .returned (v0_) ∧ Kd.R (Kd.int .i64) 3 w' w.heap.size (fun _ => True) v0_ r ∧ Below w.heap.size w w' := by
  have hu26 := Try.underlying26
  have HR0 := Aside0.mk hr0
  have HC0 := Aside0.mk hc0
  clear hr0 hc0
  have HB := Aside0.mk (Below.refl w.heap.size w)
  have H : ((some (([] : List Int) : List Int)).bind fun y208 => ((impl_rowed.f k l0 a1_0 a1_1).bind fun t211 => (if t211 = true then (impl_Idle.l0 k y208 a1_0 0 a1_0 a1_1) else (some y208)))) = some r := h
  clear h
  obtain ⟨y208, hy208⟩ : ∃ y_ : List Int, y_ = (([] : List Int)) := ⟨_, rfl⟩
  replace H : ((impl_rowed.f k l0 a1_0 a1_1).bind fun t211 => (if t211 = true then (impl_Idle.l0 k y208 a1_0 0 a1_0 a1_1) else (some y208))) = some r := by first | (rw [hy208]; with_reducible exact H) | (have H2_ := (Option.bind_some _ _).symm.trans H; rw [hy208]; with_reducible exact H2_) | (have H2_ := (Option.bind_some _ _).symm.trans H; with_reducible exact H2_) | with_reducible exact H | (rw [hy208]; exact H) | exact H
  have Ny208 := Aside0.mk hy208
  clear hy208
  replace H := Option.bind_eq_some_iff.mp H
  obtain ⟨t211, A30, H⟩ := H
  replace H : (if t211 = true then (impl_Idle.l0 k y208 a1_0 0 a1_0 a1_1) else (some y208)) = some r := H
  have A3 := Aside0.mk A30
  clear A30
  by_cases c4 : t211 = true
  · subst c4
    have H1 : (impl_Idle.l0 k y208 a1_0 0 a1_0 a1_1) = some r := by rw [if_pos rfl] at H; exact H
    clear H
    have H := H1
    clear H1
    have H' := Aside0.mk H
    clear H
    go_enter Try.func14, Try.ntmps14
    go_wp2_with (first | ((with_reducible refine gate_dst (N := 3) rfl ?_); refine box_event ?hg (N := 3) ?hd (cs := #[.int .i64 a1_0, .string a1_1]) (t := 26) ?hr ?_; (case hd => rfl); (case hg => rfl); (case hr => first | (go_simp; done) | (go_simp; rfl)); intro gb207 hg w5 hbox hb; have n0_ := Aside0.mk (below_step (by repeat (first | (with_reducible first | exact HB.out | apply below_alloc | apply pw_below_drewN | apply below_drew1) | exact HB.out)) hb); have n1_ := Aside0.mk (hbox); have n2_ := Aside0.mk ((by rw [hg]; exact (below_size (by repeat (first | (with_reducible first | exact HB.out | apply below_alloc | apply pw_below_drewN | apply below_drew1) | exact HB.out))) : w.heap.size ≤ gb207)); have n3_ := Aside0.mk ((by rw [hg]; exact (below_size (by repeat (first | (with_reducible first | exact HB.out | apply below_alloc | apply pw_below_drewN | apply below_drew1) | exact HB.out))) : w.heap.size ≤ gb207)); clear HB; have HB := n0_; have BK207 := n1_; have GW207 := n2_; have GE207 := n3_; clear n0_ n1_ n2_ n3_; clear hb hbox hg) | ((with_reducible refine gate_dst (N := 7) rfl ?_); refine Kd.R_lit (Kd.int .i64) _ 3 ?hg (N := 7) ?hd (xs := ([] : List Int)) (inner := []) (ok := fun _ => True) (okp := fun _ => True) ?hr ?hp (fun _ hk => hk) trivial (Below.refl _ _) (Nat.le_refl _) (by simp) ?_; (case hd => rfl); (case hg => rfl); (case hr => first | (go_simp; done) | (go_simp; rfl)); (case hp => exact (Reps.none _ _)); intro v209 w6 ho7 hb hg_ hnew_; clear hg_ hnew_; (first | rw [← Ny208.out] at ho7 | (simp only [Int.reduceToNat] at ho7; rw [← Ny208.out] at ho7)); have n0_ := Aside0.mk (Kd.R_lower ho7 (below_size (by repeat (first | (with_reducible first | exact HB.out | apply below_alloc | apply pw_below_drewN | apply below_drew1 | refine below_set ?_ GE207.out) | exact HB.out)))); have n1_ := Aside0.mk (blk_below (g := gb207) (o := .cells #[.int .i64 a1_0, .string a1_1] 26 (0, 0)) (by (with_reducible repeat (first | refine blk_drewN ?_ _ | refine blk_drew ?_ | refine blk_alloc ?_ _)); exact BK207.out) hb); have n2_ := Aside0.mk (below_step (by repeat (first | (with_reducible first | exact HB.out | apply below_alloc | apply pw_below_drewN | apply below_drew1 | refine below_set ?_ GE207.out) | exact HB.out)) hb); clear BK207; clear HB; have HO210 := n0_; have BK207 := n1_; have HB := n2_; clear n0_ n1_ n2_; clear hb ho7; have hcz8_0 : w6.cell? ⟨gb207, 0, none⟩ = some (.int .i64 a1_0) := (blk_cell BK207.out 0).trans rfl; have hcz8_1 : w6.cell? ⟨gb207, 1, none⟩ = some (.string a1_1) := (blk_cell BK207.out 1).trans rfl; have hfz8_0 := blk_frozen BK207.out 0; have hfz8_1 := blk_frozen BK207.out 1) | ((with_reducible refine gate_callee (f := 58) rfl ?_); refine goesL_ (some 10) rfl rfl Try.func58 (by kernel_rfl) rfl #[.slice A0 l0.length c0, .agg #[.int .i64 a1_0, .string a1_1]] rfl (by (try simp only [List.map_toArray, List.map_cons, List.map_nil]); first | done | rfl | (simp only [List.length_drop, List.length_take]; rfl)) ?_; (with_reducible refine (impl_rowed.calls k _ _ l0 a1_0 a1_1 true _ ?side1 ?side2 A3.out).mono ?_); (case side1 => repeat (first | exact (Kd.C_below HR0.out HB.out) | (with_reducible refine Kd.C_alloc ?_ _) | (with_reducible refine Kd.C_drewN ?_ _) | (with_reducible refine Kd.C_drew ?_))); (case side2 => exact HC0.out); rintro e w9 ⟨rfl, hb⟩; refine ⟨_, rfl, ?_⟩; have n0_ := Aside0.mk (Kd.R_below (by (with_reducible repeat (first | apply Kd.R_alloc | apply Kd.R_drewN | apply Kd.R_drew)); exact HO210.out) hb); have n1_ := Aside0.mk (blk_below (g := gb207) (o := .cells #[.int .i64 a1_0, .string a1_1] 26 (0, 0)) (by (with_reducible repeat (first | refine blk_drewN ?_ _ | refine blk_drew ?_ | refine blk_alloc ?_ _)); exact BK207.out) hb); have n2_ := Aside0.mk (below_step (by repeat (first | (with_reducible first | exact HB.out | apply below_alloc | apply pw_below_drewN | apply below_drew1 | refine below_set ?_ GE207.out) | exact HB.out)) hb); clear HO210; clear BK207; clear HB; have HO210 := n0_; have BK207 := n1_; have HB := n2_; clear n0_ n1_ n2_; (try clear hb); (try clear hb2); (try clear hk); (try clear hi); have hcz10_0 : w9.cell? ⟨gb207, 0, none⟩ = some (.int .i64 a1_0) := (blk_cell BK207.out 0).trans rfl; have hcz10_1 : w9.cell? ⟨gb207, 1, none⟩ = some (.string a1_1) := (blk_cell BK207.out 1).trans rfl; have hfz10_0 := blk_frozen BK207.out 0; have hfz10_1 := blk_frozen BK207.out 1))
    go_loopg [5, 15] k (fun kq v5 v15 w' => ∃ (x5_1 : List Int) (x15_1 : Int), v15 = .int .i64 x15_1 ∧ Aside0 (impl_Idle.l0 kq x5_1 a1_0 x15_1 a1_0 a1_1 = some r) ∧ Aside0 (kq ≤ k) ∧ Aside0 (Kd.R (Kd.int .i64) 3 w' w.heap.size (fun _ => True) v5 x5_1) ∧ Aside0 (w'.heap[gb207]? = some (.cells #[.int .i64 a1_0, .string a1_1] 26 (0, 0))) ∧ Aside0 (Below w.heap.size w w'))
    case atStart => exact ⟨(y208), (0), (by first | rfl | (simp; done) | (simp [*]; done)), H', ⟨Nat.le_refl _⟩, ⟨by (with_reducible repeat (first | apply Kd.R_alloc | apply Kd.R_drewN | apply Kd.R_drew)); exact HO210.out⟩, ⟨by (with_reducible repeat (first | refine blk_drewN ?_ _ | refine blk_drew ?_ | refine blk_alloc ?_ _)); exact BK207.out⟩, ⟨by repeat (first | (with_reducible first | exact HB.out | apply below_alloc | apply pw_below_drewN | apply below_drew1 | refine below_set ?_ GE207.out) | exact HB.out)⟩⟩
    case round =>
      clear H'
      try clear c1
      try clear p2
      try clear c4
      try clear c5
      try clear hcz10_0
      try clear hcz10_1
      try clear hcz8_0
      try clear hcz8_1
      try clear hfz10_0
      try clear hfz10_1
      try clear hfz8_0
      try clear hfz8_1
      obtain ⟨x5_1, x15_1, rfl, HA, HK1, HO_5, BK207, HB⟩ := hrel
      cases gk with
      | zero => exact absurd HA.out (by simp [impl_Idle.l0])
      | succ k1 =>
        have H := HA.out
        clear HA
        simp only [impl_Idle.l0] at H
        by_cases c11 : x15_1 < a1_0
        · rw [if_pos c11] at H
          have c11b0 : decide (x15_1 < a1_0) = true := decide_eq_true c11
          clear c11
          replace H := Option.bind_eq_some_iff.mp H
          obtain ⟨t212, A120, H⟩ := H
          replace H : (if t212 = true then (impl_Idle.l0 k1 x5_1 a1_0 (wrap64 (x15_1 + 1)) a1_0 a1_1) else (if x5_1.length < 17592186044416 then (impl_Idle.l0 k1 (x5_1 ++ [x15_1]) a1_0 (wrap64 (x15_1 + 1)) a1_0 a1_1) else (none))) = some r := H
          have A12 := Aside0.mk A120
          clear A120
          by_cases c13 : t212 = true
          · subst c13
            have H1 : (impl_Idle.l0 k1 x5_1 a1_0 (wrap64 (x15_1 + 1)) a1_0 a1_1) = some r := by rw [if_pos rfl] at H; exact H
            clear H
            have H := H1
            clear H1
            have H' := Aside0.mk H
            clear H
            have hcz14_0 : wr.cell? ⟨gb207, 0, none⟩ = some (.int .i64 a1_0) := (blk_cell BK207.out 0).trans rfl
            have hcz14_1 : wr.cell? ⟨gb207, 1, none⟩ = some (.string a1_1) := (blk_cell BK207.out 1).trans rfl
            have hfz14_0 := blk_frozen BK207.out 0
            have hfz14_1 := blk_frozen BK207.out 1
            go_wp2_with (first | ((with_reducible refine gate_callee (f := 60) rfl ?_); refine goesL_ (some 20) rfl rfl Try.func60 (by kernel_rfl) rfl #[.agg #[.int .i64 a1_0, .string a1_1], .int .i64 x15_1] rfl (by (try simp only [List.map_toArray, List.map_cons, List.map_nil]); first | done | rfl | (simp only [List.length_drop, List.length_take]; rfl)) ?_; (with_reducible refine (impl_Table_needs.calls k1 a1_0 a1_1 x15_1 true _ A12.out).mono ?_); rintro e w15 ⟨rfl, hb⟩; refine ⟨_, rfl, ?_⟩; have n0_ := Aside0.mk (Kd.R_below (by (with_reducible repeat (first | apply Kd.R_alloc | apply Kd.R_drewN | apply Kd.R_drew)); exact HO_5.out) hb); have n1_ := Aside0.mk (blk_below (g := gb207) (o := .cells #[.int .i64 a1_0, .string a1_1] 26 (0, 0)) (by (with_reducible repeat (first | refine blk_drewN ?_ _ | refine blk_drew ?_ | refine blk_alloc ?_ _)); exact BK207.out) hb); have n2_ := Aside0.mk (below_step (by repeat (first | (with_reducible first | exact HB.out | apply below_alloc | apply pw_below_drewN | apply below_drew1 | refine below_set ?_ GE207.out) | exact HB.out)) hb); clear HO_5; clear BK207; clear HB; have HO_5 := n0_; have BK207 := n1_; have HB := n2_; clear n0_ n1_ n2_; (try clear hb); (try clear hb2); (try clear hk); (try clear hi)))
            go_roundg k1
            case measure => have := HK1.out; omega
            case rel => exact ⟨(x5_1), (wrap64 (x15_1 + 1)), (by first | rfl | (simp; done) | (simp [*]; done)), H', ⟨by have := HK1.out; omega⟩, ⟨by (with_reducible repeat (first | apply Kd.R_alloc | apply Kd.R_drewN | apply Kd.R_drew)); exact HO_5.out⟩, ⟨by (with_reducible repeat (first | refine blk_drewN ?_ _ | refine blk_drew ?_ | refine blk_alloc ?_ _)); exact BK207.out⟩, ⟨by repeat (first | (with_reducible first | exact HB.out | apply below_alloc | apply pw_below_drewN | apply below_drew1 | refine below_set ?_ GE207.out) | exact HB.out)⟩⟩
          · replace c13 := Bool.eq_false_iff.mpr c13
            subst c13
            have H1 : (if x5_1.length < 17592186044416 then (impl_Idle.l0 k1 (x5_1 ++ [x15_1]) a1_0 (wrap64 (x15_1 + 1)) a1_0 a1_1) else (none)) = some r := by rw [if_neg (show ¬ (false = true) by decide)] at H; exact H
            clear H
            have H := H1
            clear H1
            by_cases c16 : x5_1.length < 17592186044416
            · rw [if_pos c16] at H
              have LMc16 := Aside0.mk c16
              clear c16
              obtain ⟨y213, hy213⟩ : ∃ y_ : List Int, y_ = (x5_1 ++ [x15_1]) := ⟨_, rfl⟩
              replace H : (impl_Idle.l0 k1 y213 a1_0 (wrap64 (x15_1 + 1)) a1_0 a1_1) = some r := by first | (rw [hy213]; with_reducible exact H) | (have H2_ := (Option.bind_some _ _).symm.trans H; rw [hy213]; with_reducible exact H2_) | (have H2_ := (Option.bind_some _ _).symm.trans H; with_reducible exact H2_) | with_reducible exact H | (rw [hy213]; exact H) | exact H
              have Ny213 := Aside0.mk hy213
              clear hy213
              have H' := Aside0.mk H
              clear H
              have hcz17_0 : wr.cell? ⟨gb207, 0, none⟩ = some (.int .i64 a1_0) := (blk_cell BK207.out 0).trans rfl
              have hcz17_1 : wr.cell? ⟨gb207, 1, none⟩ = some (.string a1_1) := (blk_cell BK207.out 1).trans rfl
              have hfz17_0 := blk_frozen BK207.out 0
              have hfz17_1 := blk_frozen BK207.out 1
              go_wp2_with (first | ((with_reducible refine gate_callee (f := 60) rfl ?_); refine goesL_ (some 20) rfl rfl Try.func60 (by kernel_rfl) rfl #[.agg #[.int .i64 a1_0, .string a1_1], .int .i64 x15_1] rfl (by (try simp only [List.map_toArray, List.map_cons, List.map_nil]); first | done | rfl | (simp only [List.length_drop, List.length_take]; rfl)) ?_; (with_reducible refine (impl_Table_needs.calls k1 a1_0 a1_1 x15_1 false _ A12.out).mono ?_); rintro e w18 ⟨rfl, hb⟩; refine ⟨_, rfl, ?_⟩; have n0_ := Aside0.mk (Kd.R_below (by (with_reducible repeat (first | apply Kd.R_alloc | apply Kd.R_drewN | apply Kd.R_drew)); exact HO_5.out) hb); have n1_ := Aside0.mk (blk_below (g := gb207) (o := .cells #[.int .i64 a1_0, .string a1_1] 26 (0, 0)) (by (with_reducible repeat (first | refine blk_drewN ?_ _ | refine blk_drew ?_ | refine blk_alloc ?_ _)); exact BK207.out) hb); have n2_ := Aside0.mk (below_step (by repeat (first | (with_reducible first | exact HB.out | apply below_alloc | apply pw_below_drewN | apply below_drew1 | refine below_set ?_ GE207.out) | exact HB.out)) hb); clear HO_5; clear BK207; clear HB; have HO_5 := n0_; have BK207 := n1_; have HB := n2_; clear n0_ n1_ n2_; (try clear hb); (try clear hb2); (try clear hk); (try clear hi)) | ((with_reducible refine gate_builtin (b := .append) (xs := #[.tmp 22, .tmp 24]) rfl ?_); at_builtin; refine Kd.R_append (Kd.int .i64) (w0 := w) w.heap.size rfl (.tmp 22) (.tmp 24) 31 3 (.int .i64 0) 8 rfl Try.underlying31 info3 rfl (by decide) (by omega) u5 x5_1 x15_1 [.int .i64 x15_1] (fun _ => True) (fun _ => False) rfl rfl ?aP (fun _ hk => hk.elim) ?aF ?aO ?aB ?aS ?aL ?_; (case aP => exact rfl); (case aB => exact (by repeat (first | (with_reducible first | exact HB.out | apply below_alloc | apply pw_below_drewN | apply below_drew1 | refine below_set ?_ GE207.out) | exact HB.out))); (case aF => exact (fun _ _ => trivial)); (case aO => exact (by (with_reducible repeat (first | apply Kd.R_alloc | apply Kd.R_drewN | apply Kd.R_drew)); exact HO_5.out)); (case aS => exact (below_size (by repeat (first | (with_reducible first | exact HB.out | apply below_alloc | apply pw_below_drewN | apply below_drew1 | refine below_set ?_ GE207.out) | exact HB.out)))); (case aL => have := LMc16.out; omega); intro v214 w19 ho hb hg hat; rw [← Ny213.out] at ho; have n0_ := Aside0.mk (blk_grown (g := gb207) (o := .cells #[.int .i64 a1_0, .string a1_1] 26 (0, 0)) (by (with_reducible repeat (first | refine blk_drewN ?_ _ | refine blk_drew ?_ | refine blk_alloc ?_ _)); exact BK207.out) hg (Kd.R_ne HO_5.out BK207.out (by decide))); have n1_ := Aside0.mk (hb); have n2_ := Aside0.mk (ho); clear BK207; clear HB; clear HO_5; have BK207 := n0_; have HB := n1_; have HO215 := n2_; clear n0_ n1_ n2_; clear ho hb hg hat))
              go_roundg k1
              case measure => have := HK1.out; omega
              case rel => exact ⟨(y213), (wrap64 (x15_1 + 1)), (by first | rfl | (simp; done) | (simp [*]; done)), H', ⟨by have := HK1.out; omega⟩, ⟨by (with_reducible repeat (first | apply Kd.R_alloc | apply Kd.R_drewN | apply Kd.R_drew)); exact HO215.out⟩, ⟨by (with_reducible repeat (first | refine blk_drewN ?_ _ | refine blk_drew ?_ | refine blk_alloc ?_ _)); exact BK207.out⟩, ⟨by repeat (first | (with_reducible first | exact HB.out | apply below_alloc | apply pw_below_drewN | apply below_drew1 | refine below_set ?_ GE207.out) | exact HB.out)⟩⟩
            · rw [if_neg c16] at H
              exact absurd H (by simp)
        · rw [if_neg c11] at H
          have c11b0 : decide (x15_1 < a1_0) = false := decide_eq_false c11
          clear c11
          obtain rfl := Option.some.inj H
          go_wp2
          go_ret
          exact ⟨_, by first | rfl | (simp [errW_none, errW_some] <;> rfl) | (simp [*, errW_none, errW_some] <;> rfl), by (with_reducible repeat (first | apply Kd.R_alloc | apply Kd.R_drewN | apply Kd.R_drew)); exact HO_5.out, by repeat (first | (with_reducible first | exact HB.out | apply below_alloc | apply pw_below_drewN | apply below_drew1 | refine below_set ?_ GE207.out) | exact HB.out)⟩
  · replace c4 := Bool.eq_false_iff.mpr c4
    subst c4
    have H1 : (some y208) = some r := by rw [if_neg (show ¬ (false = true) by decide)] at H; exact H
    clear H
    have H := H1
    clear H1
    obtain rfl := Option.some.inj H
    go_enter Try.func14, Try.ntmps14
    go_wp2_with (first | ((with_reducible refine gate_dst (N := 3) rfl ?_); refine box_event ?hg (N := 3) ?hd (cs := #[.int .i64 a1_0, .string a1_1]) (t := 26) ?hr ?_; (case hd => rfl); (case hg => rfl); (case hr => first | (go_simp; done) | (go_simp; rfl)); intro gb207 hg w20 hbox hb; have n0_ := Aside0.mk (below_step (by repeat (first | (with_reducible first | exact HB.out | apply below_alloc | apply pw_below_drewN | apply below_drew1) | exact HB.out)) hb); have n1_ := Aside0.mk (hbox); have n2_ := Aside0.mk ((by rw [hg]; exact (below_size (by repeat (first | (with_reducible first | exact HB.out | apply below_alloc | apply pw_below_drewN | apply below_drew1) | exact HB.out))) : w.heap.size ≤ gb207)); have n3_ := Aside0.mk ((by rw [hg]; exact (below_size (by repeat (first | (with_reducible first | exact HB.out | apply below_alloc | apply pw_below_drewN | apply below_drew1) | exact HB.out))) : w.heap.size ≤ gb207)); clear HB; have HB := n0_; have BK207 := n1_; have GW207 := n2_; have GE207 := n3_; clear n0_ n1_ n2_ n3_; clear hb hbox hg) | ((with_reducible refine gate_dst (N := 7) rfl ?_); refine Kd.R_lit (Kd.int .i64) _ 3 ?hg (N := 7) ?hd (xs := ([] : List Int)) (inner := []) (ok := fun _ => True) (okp := fun _ => True) ?hr ?hp (fun _ hk => hk) trivial (Below.refl _ _) (Nat.le_refl _) (by simp) ?_; (case hd => rfl); (case hg => rfl); (case hr => first | (go_simp; done) | (go_simp; rfl)); (case hp => exact (Reps.none _ _)); intro v209 w21 ho22 hb hg_ hnew_; clear hg_ hnew_; (first | rw [← Ny208.out] at ho22 | (simp only [Int.reduceToNat] at ho22; rw [← Ny208.out] at ho22)); have n0_ := Aside0.mk (Kd.R_lower ho22 (below_size (by repeat (first | (with_reducible first | exact HB.out | apply below_alloc | apply pw_below_drewN | apply below_drew1 | refine below_set ?_ GE207.out) | exact HB.out)))); have n1_ := Aside0.mk (blk_below (g := gb207) (o := .cells #[.int .i64 a1_0, .string a1_1] 26 (0, 0)) (by (with_reducible repeat (first | refine blk_drewN ?_ _ | refine blk_drew ?_ | refine blk_alloc ?_ _)); exact BK207.out) hb); have n2_ := Aside0.mk (below_step (by repeat (first | (with_reducible first | exact HB.out | apply below_alloc | apply pw_below_drewN | apply below_drew1 | refine below_set ?_ GE207.out) | exact HB.out)) hb); clear BK207; clear HB; have HO210 := n0_; have BK207 := n1_; have HB := n2_; clear n0_ n1_ n2_; clear hb ho22; have hcz23_0 : w21.cell? ⟨gb207, 0, none⟩ = some (.int .i64 a1_0) := (blk_cell BK207.out 0).trans rfl; have hcz23_1 : w21.cell? ⟨gb207, 1, none⟩ = some (.string a1_1) := (blk_cell BK207.out 1).trans rfl; have hfz23_0 := blk_frozen BK207.out 0; have hfz23_1 := blk_frozen BK207.out 1) | ((with_reducible refine gate_callee (f := 58) rfl ?_); refine goesL_ (some 10) rfl rfl Try.func58 (by kernel_rfl) rfl #[.slice A0 l0.length c0, .agg #[.int .i64 a1_0, .string a1_1]] rfl (by (try simp only [List.map_toArray, List.map_cons, List.map_nil]); first | done | rfl | (simp only [List.length_drop, List.length_take]; rfl)) ?_; (with_reducible refine (impl_rowed.calls k _ _ l0 a1_0 a1_1 false _ ?side1 ?side2 A3.out).mono ?_); (case side1 => repeat (first | exact (Kd.C_below HR0.out HB.out) | (with_reducible refine Kd.C_alloc ?_ _) | (with_reducible refine Kd.C_drewN ?_ _) | (with_reducible refine Kd.C_drew ?_))); (case side2 => exact HC0.out); rintro e w24 ⟨rfl, hb⟩; refine ⟨_, rfl, ?_⟩; have n0_ := Aside0.mk (Kd.R_below (by (with_reducible repeat (first | apply Kd.R_alloc | apply Kd.R_drewN | apply Kd.R_drew)); exact HO210.out) hb); have n1_ := Aside0.mk (blk_below (g := gb207) (o := .cells #[.int .i64 a1_0, .string a1_1] 26 (0, 0)) (by (with_reducible repeat (first | refine blk_drewN ?_ _ | refine blk_drew ?_ | refine blk_alloc ?_ _)); exact BK207.out) hb); have n2_ := Aside0.mk (below_step (by repeat (first | (with_reducible first | exact HB.out | apply below_alloc | apply pw_below_drewN | apply below_drew1 | refine below_set ?_ GE207.out) | exact HB.out)) hb); clear HO210; clear BK207; clear HB; have HO210 := n0_; have BK207 := n1_; have HB := n2_; clear n0_ n1_ n2_; (try clear hb); (try clear hb2); (try clear hk); (try clear hi)))
    go_ret
    exact ⟨_, by first | rfl | (simp [errW_none, errW_some] <;> rfl) | (simp [*, errW_none, errW_some] <;> rfl), by (with_reducible repeat (first | apply Kd.R_alloc | apply Kd.R_drewN | apply Kd.R_drew)); exact HO210.out, by repeat (first | (with_reducible first | exact HB.out | apply below_alloc | apply pw_below_drewN | apply below_drew1 | refine below_set ?_ GE207.out) | exact HB.out)⟩

end Go.Proofs.Ythipjoioicmcnaa.G
-- written by a program of this session (wip/gen/gen.py); Lean checks it
namespace Go.Proofs.Ythipjoioicmcnaa.G
open Go.RowKit Go.Proofs.YthipjoioicmcnaaW.PrintWords Go.Proofs.YthipjoioicmcnaaW.PrintLast Go.Proofs.YthipjoioicmcnaaW.PrintMore
attribute [local go_sem] max2_int min2_int max_two min_two max_three min_three max_four min_four   -- for this text's walks alone
set_option linter.unusedVariables false
set_option linter.unusedSimpArgs false

/-! ### impl_Known: function 17 -/
def impl_Known.f (k : Nat) (a0_0 : Int) (a0_1 : ByteArray) : Option (Int) := (impl_TableOk.f k a0_0 a0_1).bind fun t251 => (if t251 = true then ((impl_Table_known.f a0_0 a0_1).bind fun t252 => (some t252)) else (some (-1)))
set_option maxHeartbeats 8000000 in
set_option maxRecDepth 100000 in
theorem impl_Known.calls (k : Nat) (a0_0 : Int) (a0_1 : ByteArray) (r : Int) (w : World) (h : impl_Known.f k a0_0 a0_1 = some r) :
    Calls Try.prog 17 #[.agg #[.int .i64 a0_0, .string a0_1]] w fun e w' => e = .returned (.int .i64 r) ∧ Below w.heap.size w w' := by
  have hu26 := Try.underlying26
  have HB := Aside0.mk (Below.refl w.heap.size w)
  have H : ((impl_TableOk.f k a0_0 a0_1).bind fun t251 => (if t251 = true then ((impl_Table_known.f a0_0 a0_1).bind fun t252 => (some t252)) else (some (-1)))) = some r := h
  clear h
  replace H := Option.bind_eq_some_iff.mp H
  obtain ⟨t251, A20, H⟩ := H
  replace H : (if t251 = true then ((impl_Table_known.f a0_0 a0_1).bind fun t252 => (some t252)) else (some (-1))) = some r := H
  have A2 := Aside0.mk A20
  clear A20
  by_cases c3 : t251 = true
  · subst c3
    have H1 : ((impl_Table_known.f a0_0 a0_1).bind fun t252 => (some t252)) = some r := by rw [if_pos rfl] at H; exact H
    clear H
    have H := H1
    clear H1
    replace H := Option.bind_eq_some_iff.mp H
    obtain ⟨t252, A40, H⟩ := H
    replace H : (some t252) = some r := H
    have A4 := Aside0.mk A40
    clear A40
    obtain rfl := Option.some.inj H
    go_enter Try.func17, Try.ntmps17
    go_wp2_with (first | ((with_reducible refine gate_dst (N := 1) rfl ?_); refine box_event ?hg (N := 1) ?hd (cs := #[.int .i64 a0_0, .string a0_1]) (t := 26) ?hr ?_; (case hd => rfl); (case hg => rfl); (case hr => first | (go_simp; done) | (go_simp; rfl)); intro gb250 hg w5 hbox hb; have n0_ := Aside0.mk (below_step (by repeat (first | (with_reducible first | exact HB.out | apply below_alloc | apply pw_below_drewN | apply below_drew1) | exact HB.out)) hb); have n1_ := Aside0.mk (hbox); have n2_ := Aside0.mk ((by rw [hg]; exact (below_size (by repeat (first | (with_reducible first | exact HB.out | apply below_alloc | apply pw_below_drewN | apply below_drew1) | exact HB.out))) : w.heap.size ≤ gb250)); have n3_ := Aside0.mk ((by rw [hg]; exact (below_size (by repeat (first | (with_reducible first | exact HB.out | apply below_alloc | apply pw_below_drewN | apply below_drew1) | exact HB.out))) : w.heap.size ≤ gb250)); clear HB; have HB := n0_; have BK250 := n1_; have GW250 := n2_; have GE250 := n3_; clear n0_ n1_ n2_ n3_; clear hb hbox hg; have hcz6_0 : w5.cell? ⟨gb250, 0, none⟩ = some (.int .i64 a0_0) := (blk_cell BK250.out 0).trans rfl; have hcz6_1 : w5.cell? ⟨gb250, 1, none⟩ = some (.string a0_1) := (blk_cell BK250.out 1).trans rfl; have hfz6_0 := blk_frozen BK250.out 0; have hfz6_1 := blk_frozen BK250.out 1) | ((with_reducible refine gate_callee (f := 45) rfl ?_); refine goesL_ (some 4) rfl rfl Try.func45 (by kernel_rfl) rfl #[.agg #[.int .i64 a0_0, .string a0_1]] rfl (by (try simp only [List.map_toArray, List.map_cons, List.map_nil]); first | done | rfl | (simp only [List.length_drop, List.length_take]; rfl)) ?_; (with_reducible refine (impl_TableOk.calls k a0_0 a0_1 true _ A2.out).mono ?_); rintro e w7 ⟨rfl, hb⟩; refine ⟨_, rfl, ?_⟩; have n0_ := Aside0.mk (blk_below (g := gb250) (o := .cells #[.int .i64 a0_0, .string a0_1] 26 (0, 0)) (by (with_reducible repeat (first | refine blk_drewN ?_ _ | refine blk_drew ?_ | refine blk_alloc ?_ _)); exact BK250.out) hb); have n1_ := Aside0.mk (below_step (by repeat (first | (with_reducible first | exact HB.out | apply below_alloc | apply pw_below_drewN | apply below_drew1 | refine below_set ?_ GE250.out) | exact HB.out)) hb); clear BK250; clear HB; have BK250 := n0_; have HB := n1_; clear n0_ n1_; (try clear hb); (try clear hb2); (try clear hk); (try clear hi); have hcz8_0 : w7.cell? ⟨gb250, 0, none⟩ = some (.int .i64 a0_0) := (blk_cell BK250.out 0).trans rfl; have hcz8_1 : w7.cell? ⟨gb250, 1, none⟩ = some (.string a0_1) := (blk_cell BK250.out 1).trans rfl; have hfz8_0 := blk_frozen BK250.out 0; have hfz8_1 := blk_frozen BK250.out 1) | ((with_reducible refine gate_callee (f := 65) rfl ?_); refine goesL_ (some 7) rfl rfl Try.func65 (by kernel_rfl) rfl #[.agg #[.int .i64 a0_0, .string a0_1]] rfl (by (try simp only [List.map_toArray, List.map_cons, List.map_nil]); first | done | rfl | (simp only [List.length_drop, List.length_take]; rfl)) ?_; (with_reducible refine (impl_Table_known.calls a0_0 a0_1 t252 _ A4.out).mono ?_); rintro e w9 ⟨rfl, hb⟩; refine ⟨_, rfl, ?_⟩; have n0_ := Aside0.mk (blk_below (g := gb250) (o := .cells #[.int .i64 a0_0, .string a0_1] 26 (0, 0)) (by (with_reducible repeat (first | refine blk_drewN ?_ _ | refine blk_drew ?_ | refine blk_alloc ?_ _)); exact BK250.out) hb); have n1_ := Aside0.mk (below_step (by repeat (first | (with_reducible first | exact HB.out | apply below_alloc | apply pw_below_drewN | apply below_drew1 | refine below_set ?_ GE250.out) | exact HB.out)) hb); clear BK250; clear HB; have BK250 := n0_; have HB := n1_; clear n0_ n1_; (try clear hb); (try clear hb2); (try clear hk); (try clear hi)))
    go_ret
    exact ⟨by first | rfl | (simp [errW_none, errW_some] <;> rfl) | (simp [*, errW_none, errW_some] <;> rfl), by repeat (first | (with_reducible first | exact HB.out | apply below_alloc | apply pw_below_drewN | apply below_drew1 | refine below_set ?_ GE250.out) | exact HB.out)⟩
  · replace c3 := Bool.eq_false_iff.mpr c3
    subst c3
    have H1 : (some (-1)) = some r := by rw [if_neg (show ¬ (false = true) by decide)] at H; exact H
    clear H
    have H := H1
    clear H1
    obtain rfl := Option.some.inj H
    go_enter Try.func17, Try.ntmps17
    go_wp2_with (first | ((with_reducible refine gate_dst (N := 1) rfl ?_); refine box_event ?hg (N := 1) ?hd (cs := #[.int .i64 a0_0, .string a0_1]) (t := 26) ?hr ?_; (case hd => rfl); (case hg => rfl); (case hr => first | (go_simp; done) | (go_simp; rfl)); intro gb250 hg w10 hbox hb; have n0_ := Aside0.mk (below_step (by repeat (first | (with_reducible first | exact HB.out | apply below_alloc | apply pw_below_drewN | apply below_drew1) | exact HB.out)) hb); have n1_ := Aside0.mk (hbox); have n2_ := Aside0.mk ((by rw [hg]; exact (below_size (by repeat (first | (with_reducible first | exact HB.out | apply below_alloc | apply pw_below_drewN | apply below_drew1) | exact HB.out))) : w.heap.size ≤ gb250)); have n3_ := Aside0.mk ((by rw [hg]; exact (below_size (by repeat (first | (with_reducible first | exact HB.out | apply below_alloc | apply pw_below_drewN | apply below_drew1) | exact HB.out))) : w.heap.size ≤ gb250)); clear HB; have HB := n0_; have BK250 := n1_; have GW250 := n2_; have GE250 := n3_; clear n0_ n1_ n2_ n3_; clear hb hbox hg; have hcz11_0 : w10.cell? ⟨gb250, 0, none⟩ = some (.int .i64 a0_0) := (blk_cell BK250.out 0).trans rfl; have hcz11_1 : w10.cell? ⟨gb250, 1, none⟩ = some (.string a0_1) := (blk_cell BK250.out 1).trans rfl; have hfz11_0 := blk_frozen BK250.out 0; have hfz11_1 := blk_frozen BK250.out 1) | ((with_reducible refine gate_callee (f := 45) rfl ?_); refine goesL_ (some 4) rfl rfl Try.func45 (by kernel_rfl) rfl #[.agg #[.int .i64 a0_0, .string a0_1]] rfl (by (try simp only [List.map_toArray, List.map_cons, List.map_nil]); first | done | rfl | (simp only [List.length_drop, List.length_take]; rfl)) ?_; (with_reducible refine (impl_TableOk.calls k a0_0 a0_1 false _ A2.out).mono ?_); rintro e w12 ⟨rfl, hb⟩; refine ⟨_, rfl, ?_⟩; have n0_ := Aside0.mk (blk_below (g := gb250) (o := .cells #[.int .i64 a0_0, .string a0_1] 26 (0, 0)) (by (with_reducible repeat (first | refine blk_drewN ?_ _ | refine blk_drew ?_ | refine blk_alloc ?_ _)); exact BK250.out) hb); have n1_ := Aside0.mk (below_step (by repeat (first | (with_reducible first | exact HB.out | apply below_alloc | apply pw_below_drewN | apply below_drew1 | refine below_set ?_ GE250.out) | exact HB.out)) hb); clear BK250; clear HB; have BK250 := n0_; have HB := n1_; clear n0_ n1_; (try clear hb); (try clear hb2); (try clear hk); (try clear hi)))
    go_ret
    exact ⟨by first | rfl | (simp [errW_none, errW_some] <;> rfl) | (simp [*, errW_none, errW_some] <;> rfl), by repeat (first | (with_reducible first | exact HB.out | apply below_alloc | apply pw_below_drewN | apply below_drew1 | refine below_set ?_ GE250.out) | exact HB.out)⟩

end Go.Proofs.Ythipjoioicmcnaa.G
/- Calls through a function value: the operation meets a contract on the function that the value holds. Conditions: each lemma's own hypotheses. -/
namespace Go.Proofs.Ythipjoioicmcnaa.Fv
open Go.RowKit Go.Proofs.YthipjoioicmcnaaW.PrintWords Go.Proofs.YthipjoioicmcnaaW.PrintLast Go.Proofs.YthipjoioicmcnaaW.PrintMore

/-- Function c has a body of its own. -/
structure Enterable (P : Program) (c : Nat) : Prop where
  out : ∃ fn, P.funcs[c]? = some fn ∧ (fn.name == "runtime.NumGoroutine") = false ∧ fn.body.isSome = true
theorem Enterable.of {P : Program} {c : Nat} {fn : Func} (hf : P.funcs[c]? = some fn) (hname : (fn.name == "runtime.NumGoroutine") = false) (hb : fn.body.isSome = true) : Enterable P c := ⟨fn, hf, hname, hb⟩
section
variable {P : Program} {ops : Array Oper} {rest : List Oper} {o : Oper} {a : Act} {w : World} {Q : Exit → Act → World → Prop}
theorem gate_calleeV {q : Operand} {ars : Array Operand} {ts : Array TypeId} (_ho : o.op = .call { callee := .value q, args := ars, argTypes := ts }) (h : wpList P ops Q (o :: rest) a w) : wpList P ops Q (o :: rest) a w := h
theorem goesV_ (N : Option Tmp) (hd : o.dst = N) (hg : o.guard = none) {f : FuncId} {q : Operand} {caps : Array Value} {ars : Array Operand} {ts : Array TypeId} (hf : Enterable P f)
    (hv : a.eval q = .func (.func f) #[] caps) (args : Array Value) (hop : o.op = .call { callee := .value q, args := ars, argTypes := ts }) (hargs : ars.map a.eval = args)
    (h : Calls P f (args ++ caps) w fun e w' => ∃ v, e = .returned v ∧ wpList P ops Q rest (a.put N v) w') : wpList P ops Q (o :: rest) a w := by
  obtain ⟨fn, hf1, hf2, hf3⟩ := hf.out
  refine wpList_plain hg fun K hK => ?_
  have he := enters_ hf1 hf2 hf3 (args ++ caps) w
  have hrun : (execOp a.eval o).run P w = .ok (.enter f (args ++ caps)) w := by
    unfold execOp
    simp [hop, resolve, hv, Deferred.ofValue, invoke, hargs, he]
  unfold Oper.wp
  rw [hrun, Oper.upon_enter]
  refine h.mono fun e w'' hh => ?_
  obtain ⟨v, rfl, hk⟩ := hh
  subst hd
  exact hK _ _ hk
end
end Go.Proofs.Ythipjoioicmcnaa.Fv
-- written by a program of this session (wip/gen/gen.py); Lean checks it
namespace Go.Proofs.Ythipjoioicmcnaa.G
open Go.RowKit Go.Proofs.YthipjoioicmcnaaW.PrintWords Go.Proofs.YthipjoioicmcnaaW.PrintLast Go.Proofs.YthipjoioicmcnaaW.PrintMore
attribute [local go_sem] max2_int min2_int max_two min_two max_three min_three max_four min_four   -- for this text's walks alone
set_option linter.unusedVariables false
set_option linter.unusedSimpArgs false

/-! ### impl_cut: function 64 -/
def impl_cut.f (a0 : Int) (a1 : Int) : Option (Int) := if 0 ≤ (IntKind.u64.wrap (a0)) then (some (Go.bits .and .i64 a1 (wrap64 ((shl .i64 1 (IntKind.u64.wrap (a0))) - 1)))) else (none)
set_option maxHeartbeats 8000000 in
set_option maxRecDepth 100000 in
theorem impl_cut.calls (a0 : Int) (a1 : Int) (r : Int) (w : World) (h : impl_cut.f a0 a1 = some r) :
    Calls Try.prog 64 #[.int .i64 a0, .int .i64 a1] w fun e w' => e = .returned (.int .i64 r) ∧ Drawn0 w w' := by
  have H : (if 0 ≤ (IntKind.u64.wrap (a0)) then (some (Go.bits .and .i64 a1 (wrap64 ((shl .i64 1 (IntKind.u64.wrap (a0))) - 1)))) else (none)) = some r := h
  clear h
  obtain ⟨ji3, hji3⟩ : ∃ j_ : Int, (IntKind.u64.wrap (a0)) = j_ := ⟨_, rfl⟩
  replace H : (if 0 ≤ (ji3) then (some (Go.bits .and .i64 a1 (wrap64 ((shl .i64 1 (ji3)) - 1)))) else (none)) = some r := by first | (rw [hji3] at H; exact H) | (simp only [hji3] at H ⊢; exact H)
  by_cases c4 : 0 ≤ (ji3)
  · rw [if_pos c4] at H
    have c4b0 := eq_true c4
    have c4b1 : decide (0 ≤ (ji3)) = true := decide_eq_true c4
    clear c4
    obtain ⟨ji5, hji5⟩ : ∃ j_ : Int, (shl .i64 1 (ji3)) = j_ := ⟨_, rfl⟩
    replace H : (some (Go.bits .and .i64 a1 (wrap64 ((ji5) - 1)))) = some r := by first | (rw [hji5] at H; exact H) | (simp only [hji5] at H ⊢; exact H)
    have hji5_ : (IntKind.i64.wrap (1 * 2 ^ min (ji3).toNat 64)) = ji5 := hji5
    have hji5z : (ji3) ≤ 64 → (IntKind.i64.wrap (1 * 2 ^ (ji3).toNat)) = ji5 := shl_small hji5
    have hji5u : (IntKind.i64.wrap (2 ^ min (ji3).toNat 64)) = ji5 := by have h_ := hji5_; rw [Int.one_mul] at h_; exact h_
    have hji5v : (ji3) ≤ 64 → (IntKind.i64.wrap (2 ^ (ji3).toNat)) = ji5 := fun hle_ => by have h_ := hji5z hle_; rw [Int.one_mul] at h_; exact h_
    have hji5y : (wrap64 (1 * 2 ^ min (ji3).toNat 64)) = ji5 := (i64_w _).symm.trans hji5_
    have hji5x : (ji3) ≤ 64 → (wrap64 (1 * 2 ^ (ji3).toNat)) = ji5 := fun h_ => (i64_w _).symm.trans (hji5z h_)
    obtain rfl := Option.some.inj H
    go_enter Try.func64, Try.ntmps64
    go_wp2
    go_ret
    exact ⟨by first | rfl | (simp; done) | (simp only [← hji3, ← hji5] <;> (first | rfl | simp)) | (simp [*]; done), by repeat (first | exact Drawn0.refl _ | apply Drawn0.step)⟩
  · rw [if_neg c4] at H
    exact absurd H (by simp)

end Go.Proofs.Ythipjoioicmcnaa.G
-- written by a program of this session (wip/gen/gen.py); Lean checks it
namespace Go.Proofs.Ythipjoioicmcnaa.G
open Go.RowKit Go.Proofs.YthipjoioicmcnaaW.PrintWords Go.Proofs.YthipjoioicmcnaaW.PrintLast Go.Proofs.YthipjoioicmcnaaW.PrintMore
attribute [local go_sem] max2_int min2_int max_two min_two max_three min_three max_four min_four   -- for this text's walks alone
set_option linter.unusedVariables false
set_option linter.unusedSimpArgs false

/-! ### impl_Merge_1: function 63 -/
def impl_Merge_1.f (a0 : Int) (a90_0 : Int) (a91_0 : Int) (a91_1 : ByteArray) (l92_0 : List Bool) (a93_0 : Int) : Option (Bool) := if 0 ≤ a90_0 then (if 0 ≤ (IntKind.u64.wrap (a90_0 + 1)) then ((impl_cut.f (wrap64 (a90_0)) a0).bind fun t238 => (if 0 ≤ (Go.bits .or .i64 (shl .i64 (shr .i64 a0 a90_0) (IntKind.u64.wrap (a90_0 + 1))) t238) then (if (Go.bits .or .i64 (shl .i64 (shr .i64 a0 a90_0) (IntKind.u64.wrap (a90_0 + 1))) t238) < (a91_1.size : Int) then (if 0 ≤ (Go.bits .or .i64 (Go.bits .or .i64 (shl .i64 (shr .i64 a0 a90_0) (IntKind.u64.wrap (a90_0 + 1))) t238) (shl .i64 1 a90_0)) then (if (Go.bits .or .i64 (Go.bits .or .i64 (shl .i64 (shr .i64 a0 a90_0) (IntKind.u64.wrap (a90_0 + 1))) t238) (shl .i64 1 a90_0)) < (a91_1.size : Int) then (if 0 ≤ a93_0 then (if a93_0 < (l92_0.length : Int) then (if rdOf false l92_0 a93_0 = true then (if (bt a91_1 (Go.bits .or .i64 (shl .i64 (shr .i64 a0 a90_0) (IntKind.u64.wrap (a90_0 + 1))) t238)) = 49 then (some ((bt a91_1 (Go.bits .or .i64 (Go.bits .or .i64 (shl .i64 (shr .i64 a0 a90_0) (IntKind.u64.wrap (a90_0 + 1))) t238) (shl .i64 1 a90_0))) == 49)) else (some false)) else (if (bt a91_1 (Go.bits .or .i64 (shl .i64 (shr .i64 a0 a90_0) (IntKind.u64.wrap (a90_0 + 1))) t238)) = 49 then (some true) else (some ((bt a91_1 (Go.bits .or .i64 (Go.bits .or .i64 (shl .i64 (shr .i64 a0 a90_0) (IntKind.u64.wrap (a90_0 + 1))) t238) (shl .i64 1 a90_0))) == 49)))) else (none)) else (none)) else (none)) else (none)) else (none)) else (none))) else (none)) else (none)
set_option maxHeartbeats 8000000 in
set_option maxRecDepth 100000 in
theorem impl_Merge_1.calls (a0 : Int) (g0_ : Nat) (a90_0 : Int) (g1_ : Nat) (a91_0 : Int) (a91_1 : ByteArray) (g2_ : Nat) (A92_0 : Option Addr) (c92_0 : Nat) (l92_0 : List Bool) (g3_ : Nat) (a93_0 : Int) (r : Bool) (w : World) (hbg0_ : w.heap[g0_]? = some (.cells #[.int .u64 a90_0] 81 (0, 0))) (hbg1_ : w.heap[g1_]? = some (.cells #[.int .i64 a91_0, .string a91_1] 26 (0, 0))) (hbg2_ : w.heap[g2_]? = some (.cells #[.slice A92_0 l92_0.length c92_0] 24 (0, 0))) (hr92_0 : Kd.C Kd.bool w A92_0 l92_0.length l92_0) (hc92_0 : l92_0.length ≤ c92_0) (hbg3_ : w.heap[g3_]? = some (.cells #[.int .i64 a93_0] 3 (0, 0))) (hng0_g1_ : g0_ ≠ g1_) (hng0_g2_ : g0_ ≠ g2_) (hng0_g3_ : g0_ ≠ g3_) (hng1_g2_ : g1_ ≠ g2_) (hng1_g3_ : g1_ ≠ g3_) (hng2_g3_ : g2_ ≠ g3_) (h : impl_Merge_1.f a0 a90_0 a91_0 a91_1 l92_0 a93_0 = some r) :
    Calls Try.prog 63 #[.int .i64 a0, .pointer (some ⟨g0_, 0, none⟩), .pointer (some ⟨g1_, 0, none⟩), .pointer (some ⟨g2_, 0, none⟩), .pointer (some ⟨g3_, 0, none⟩)] w fun e w' => e = .returned (.bool r) ∧ Drawn0 w w' := by
  have NB234_235 := Aside0.mk hng0_g1_
  have NB235_234 := Aside0.mk hng0_g1_.symm
  clear hng0_g1_
  have NB234_236 := Aside0.mk hng0_g2_
  have NB236_234 := Aside0.mk hng0_g2_.symm
  clear hng0_g2_
  have NB234_237 := Aside0.mk hng0_g3_
  have NB237_234 := Aside0.mk hng0_g3_.symm
  clear hng0_g3_
  have NB235_236 := Aside0.mk hng1_g2_
  have NB236_235 := Aside0.mk hng1_g2_.symm
  clear hng1_g2_
  have NB235_237 := Aside0.mk hng1_g3_
  have NB237_235 := Aside0.mk hng1_g3_.symm
  clear hng1_g3_
  have NB236_237 := Aside0.mk hng2_g3_
  have NB237_236 := Aside0.mk hng2_g3_.symm
  clear hng2_g3_
  have BK234 := Aside0.mk hbg0_
  clear hbg0_
  have BK235 := Aside0.mk hbg1_
  clear hbg1_
  have BK236 := Aside0.mk hbg2_
  clear hbg2_
  have HR92_0 := Aside0.mk hr92_0
  have HC92_0 := Aside0.mk hc92_0
  clear hr92_0 hc92_0
  have BK237 := Aside0.mk hbg3_
  clear hbg3_
  have H : (if 0 ≤ a90_0 then (if 0 ≤ (IntKind.u64.wrap (a90_0 + 1)) then ((impl_cut.f (wrap64 (a90_0)) a0).bind fun t238 => (if 0 ≤ (Go.bits .or .i64 (shl .i64 (shr .i64 a0 a90_0) (IntKind.u64.wrap (a90_0 + 1))) t238) then (if (Go.bits .or .i64 (shl .i64 (shr .i64 a0 a90_0) (IntKind.u64.wrap (a90_0 + 1))) t238) < (a91_1.size : Int) then (if 0 ≤ (Go.bits .or .i64 (Go.bits .or .i64 (shl .i64 (shr .i64 a0 a90_0) (IntKind.u64.wrap (a90_0 + 1))) t238) (shl .i64 1 a90_0)) then (if (Go.bits .or .i64 (Go.bits .or .i64 (shl .i64 (shr .i64 a0 a90_0) (IntKind.u64.wrap (a90_0 + 1))) t238) (shl .i64 1 a90_0)) < (a91_1.size : Int) then (if 0 ≤ a93_0 then (if a93_0 < (l92_0.length : Int) then (if rdOf false l92_0 a93_0 = true then (if (bt a91_1 (Go.bits .or .i64 (shl .i64 (shr .i64 a0 a90_0) (IntKind.u64.wrap (a90_0 + 1))) t238)) = 49 then (some ((bt a91_1 (Go.bits .or .i64 (Go.bits .or .i64 (shl .i64 (shr .i64 a0 a90_0) (IntKind.u64.wrap (a90_0 + 1))) t238) (shl .i64 1 a90_0))) == 49)) else (some false)) else (if (bt a91_1 (Go.bits .or .i64 (shl .i64 (shr .i64 a0 a90_0) (IntKind.u64.wrap (a90_0 + 1))) t238)) = 49 then (some true) else (some ((bt a91_1 (Go.bits .or .i64 (Go.bits .or .i64 (shl .i64 (shr .i64 a0 a90_0) (IntKind.u64.wrap (a90_0 + 1))) t238) (shl .i64 1 a90_0))) == 49)))) else (none)) else (none)) else (none)) else (none)) else (none)) else (none))) else (none)) else (none)) = some r := h
  clear h
  by_cases c2 : 0 ≤ a90_0
  · rw [if_pos c2] at H
    have c2b0 := eq_true c2
    have c2b1 : decide (0 ≤ a90_0) = true := decide_eq_true c2
    clear c2
    obtain ⟨ji3, hji3⟩ : ∃ j_ : Int, (shr .i64 a0 a90_0) = j_ := ⟨_, rfl⟩
    replace H : (if 0 ≤ (IntKind.u64.wrap (a90_0 + 1)) then ((impl_cut.f (wrap64 (a90_0)) a0).bind fun t238 => (if 0 ≤ (Go.bits .or .i64 (shl .i64 (ji3) (IntKind.u64.wrap (a90_0 + 1))) t238) then (if (Go.bits .or .i64 (shl .i64 (ji3) (IntKind.u64.wrap (a90_0 + 1))) t238) < (a91_1.size : Int) then (if 0 ≤ (Go.bits .or .i64 (Go.bits .or .i64 (shl .i64 (ji3) (IntKind.u64.wrap (a90_0 + 1))) t238) (shl .i64 1 a90_0)) then (if (Go.bits .or .i64 (Go.bits .or .i64 (shl .i64 (ji3) (IntKind.u64.wrap (a90_0 + 1))) t238) (shl .i64 1 a90_0)) < (a91_1.size : Int) then (if 0 ≤ a93_0 then (if a93_0 < (l92_0.length : Int) then (if rdOf false l92_0 a93_0 = true then (if (bt a91_1 (Go.bits .or .i64 (shl .i64 (ji3) (IntKind.u64.wrap (a90_0 + 1))) t238)) = 49 then (some ((bt a91_1 (Go.bits .or .i64 (Go.bits .or .i64 (shl .i64 (ji3) (IntKind.u64.wrap (a90_0 + 1))) t238) (shl .i64 1 a90_0))) == 49)) else (some false)) else (if (bt a91_1 (Go.bits .or .i64 (shl .i64 (ji3) (IntKind.u64.wrap (a90_0 + 1))) t238)) = 49 then (some true) else (some ((bt a91_1 (Go.bits .or .i64 (Go.bits .or .i64 (shl .i64 (ji3) (IntKind.u64.wrap (a90_0 + 1))) t238) (shl .i64 1 a90_0))) == 49)))) else (none)) else (none)) else (none)) else (none)) else (none)) else (none))) else (none)) = some r := by first | (rw [hji3] at H; exact H) | (simp only [hji3] at H ⊢; exact H)
    have hji3_ : (a0 / 2 ^ min a90_0.toNat 64) = ji3 := hji3
    have hji3z : a90_0 ≤ 64 → (a0 / 2 ^ a90_0.toNat) = ji3 := shr_small hji3
    obtain ⟨ji4, hji4⟩ : ∃ j_ : Int, (IntKind.u64.wrap (a90_0 + 1)) = j_ := ⟨_, rfl⟩
    replace H : (if 0 ≤ (ji4) then ((impl_cut.f (wrap64 (a90_0)) a0).bind fun t238 => (if 0 ≤ (Go.bits .or .i64 (shl .i64 (ji3) (ji4)) t238) then (if (Go.bits .or .i64 (shl .i64 (ji3) (ji4)) t238) < (a91_1.size : Int) then (if 0 ≤ (Go.bits .or .i64 (Go.bits .or .i64 (shl .i64 (ji3) (ji4)) t238) (shl .i64 1 a90_0)) then (if (Go.bits .or .i64 (Go.bits .or .i64 (shl .i64 (ji3) (ji4)) t238) (shl .i64 1 a90_0)) < (a91_1.size : Int) then (if 0 ≤ a93_0 then (if a93_0 < (l92_0.length : Int) then (if rdOf false l92_0 a93_0 = true then (if (bt a91_1 (Go.bits .or .i64 (shl .i64 (ji3) (ji4)) t238)) = 49 then (some ((bt a91_1 (Go.bits .or .i64 (Go.bits .or .i64 (shl .i64 (ji3) (ji4)) t238) (shl .i64 1 a90_0))) == 49)) else (some false)) else (if (bt a91_1 (Go.bits .or .i64 (shl .i64 (ji3) (ji4)) t238)) = 49 then (some true) else (some ((bt a91_1 (Go.bits .or .i64 (Go.bits .or .i64 (shl .i64 (ji3) (ji4)) t238) (shl .i64 1 a90_0))) == 49)))) else (none)) else (none)) else (none)) else (none)) else (none)) else (none))) else (none)) = some r := by first | (rw [hji4] at H; exact H) | (simp only [hji4] at H ⊢; exact H)
    by_cases c5 : 0 ≤ (ji4)
    · rw [if_pos c5] at H
      have c5b0 := eq_true c5
      have c5b1 : decide (0 ≤ (ji4)) = true := decide_eq_true c5
      clear c5
      obtain ⟨ji6, hji6⟩ : ∃ j_ : Int, (shl .i64 (ji3) (ji4)) = j_ := ⟨_, rfl⟩
      replace H : ((impl_cut.f (wrap64 (a90_0)) a0).bind fun t238 => (if 0 ≤ (Go.bits .or .i64 (ji6) t238) then (if (Go.bits .or .i64 (ji6) t238) < (a91_1.size : Int) then (if 0 ≤ (Go.bits .or .i64 (Go.bits .or .i64 (ji6) t238) (shl .i64 1 a90_0)) then (if (Go.bits .or .i64 (Go.bits .or .i64 (ji6) t238) (shl .i64 1 a90_0)) < (a91_1.size : Int) then (if 0 ≤ a93_0 then (if a93_0 < (l92_0.length : Int) then (if rdOf false l92_0 a93_0 = true then (if (bt a91_1 (Go.bits .or .i64 (ji6) t238)) = 49 then (some ((bt a91_1 (Go.bits .or .i64 (Go.bits .or .i64 (ji6) t238) (shl .i64 1 a90_0))) == 49)) else (some false)) else (if (bt a91_1 (Go.bits .or .i64 (ji6) t238)) = 49 then (some true) else (some ((bt a91_1 (Go.bits .or .i64 (Go.bits .or .i64 (ji6) t238) (shl .i64 1 a90_0))) == 49)))) else (none)) else (none)) else (none)) else (none)) else (none)) else (none))) = some r := by first | (rw [hji6] at H; exact H) | (simp only [hji6] at H ⊢; exact H)
      have hji6_ : (IntKind.i64.wrap ((ji3) * 2 ^ min (ji4).toNat 64)) = ji6 := hji6
      have hji6z : (ji4) ≤ 64 → (IntKind.i64.wrap ((ji3) * 2 ^ (ji4).toNat)) = ji6 := shl_small hji6
      have hji6y : (wrap64 ((ji3) * 2 ^ min (ji4).toNat 64)) = ji6 := (i64_w _).symm.trans hji6_
      have hji6x : (ji4) ≤ 64 → (wrap64 ((ji3) * 2 ^ (ji4).toNat)) = ji6 := fun h_ => (i64_w _).symm.trans (hji6z h_)
      replace H := Option.bind_eq_some_iff.mp H
      obtain ⟨t238, A70, H⟩ := H
      replace H : (if 0 ≤ (Go.bits .or .i64 (ji6) t238) then (if (Go.bits .or .i64 (ji6) t238) < (a91_1.size : Int) then (if 0 ≤ (Go.bits .or .i64 (Go.bits .or .i64 (ji6) t238) (shl .i64 1 a90_0)) then (if (Go.bits .or .i64 (Go.bits .or .i64 (ji6) t238) (shl .i64 1 a90_0)) < (a91_1.size : Int) then (if 0 ≤ a93_0 then (if a93_0 < (l92_0.length : Int) then (if rdOf false l92_0 a93_0 = true then (if (bt a91_1 (Go.bits .or .i64 (ji6) t238)) = 49 then (some ((bt a91_1 (Go.bits .or .i64 (Go.bits .or .i64 (ji6) t238) (shl .i64 1 a90_0))) == 49)) else (some false)) else (if (bt a91_1 (Go.bits .or .i64 (ji6) t238)) = 49 then (some true) else (some ((bt a91_1 (Go.bits .or .i64 (Go.bits .or .i64 (ji6) t238) (shl .i64 1 a90_0))) == 49)))) else (none)) else (none)) else (none)) else (none)) else (none)) else (none)) = some r := H
      have A7 := Aside0.mk A70
      clear A70
      by_cases c8 : 0 ≤ (Go.bits .or .i64 (ji6) t238)
      · rw [if_pos c8] at H
        have c8b0 : decide (0 ≤ (Go.bits .or .i64 (ji6) t238)) = true := decide_eq_true c8
        clear c8
        by_cases c9 : (Go.bits .or .i64 (ji6) t238) < (a91_1.size : Int)
        · rw [if_pos c9] at H
          have c9b0 : decide ((Go.bits .or .i64 (ji6) t238) < (a91_1.size : Int)) = true := decide_eq_true c9
          clear c9
          have c11b0 := eq_true (of_decide_eq_true (by first | (with_reducible assumption) | assumption) : 0 ≤ a90_0)
          obtain ⟨ji12, hji12⟩ : ∃ j_ : Int, (shl .i64 1 a90_0) = j_ := ⟨_, rfl⟩
          replace H : (if 0 ≤ (Go.bits .or .i64 (Go.bits .or .i64 (ji6) t238) (ji12)) then (if (Go.bits .or .i64 (Go.bits .or .i64 (ji6) t238) (ji12)) < (a91_1.size : Int) then (if 0 ≤ a93_0 then (if a93_0 < (l92_0.length : Int) then (if rdOf false l92_0 a93_0 = true then (if (bt a91_1 (Go.bits .or .i64 (ji6) t238)) = 49 then (some ((bt a91_1 (Go.bits .or .i64 (Go.bits .or .i64 (ji6) t238) (ji12))) == 49)) else (some false)) else (if (bt a91_1 (Go.bits .or .i64 (ji6) t238)) = 49 then (some true) else (some ((bt a91_1 (Go.bits .or .i64 (Go.bits .or .i64 (ji6) t238) (ji12))) == 49)))) else (none)) else (none)) else (none)) else (none)) = some r := by first | (rw [hji12] at H; exact H) | (simp only [hji12] at H ⊢; exact H)
          (try rw [hji12] at A7)
          have hji12_ : (IntKind.i64.wrap (1 * 2 ^ min a90_0.toNat 64)) = ji12 := hji12
          have hji12z : a90_0 ≤ 64 → (IntKind.i64.wrap (1 * 2 ^ a90_0.toNat)) = ji12 := shl_small hji12
          have hji12u : (IntKind.i64.wrap (2 ^ min a90_0.toNat 64)) = ji12 := by have h_ := hji12_; rw [Int.one_mul] at h_; exact h_
          have hji12v : a90_0 ≤ 64 → (IntKind.i64.wrap (2 ^ a90_0.toNat)) = ji12 := fun hle_ => by have h_ := hji12z hle_; rw [Int.one_mul] at h_; exact h_
          have hji12y : (wrap64 (1 * 2 ^ min a90_0.toNat 64)) = ji12 := (i64_w _).symm.trans hji12_
          have hji12x : a90_0 ≤ 64 → (wrap64 (1 * 2 ^ a90_0.toNat)) = ji12 := fun h_ => (i64_w _).symm.trans (hji12z h_)
          by_cases c13 : 0 ≤ (Go.bits .or .i64 (Go.bits .or .i64 (ji6) t238) (ji12))
          · rw [if_pos c13] at H
            have c13b0 : decide (0 ≤ (Go.bits .or .i64 (Go.bits .or .i64 (ji6) t238) (ji12))) = true := decide_eq_true c13
            clear c13
            by_cases c14 : (Go.bits .or .i64 (Go.bits .or .i64 (ji6) t238) (ji12)) < (a91_1.size : Int)
            · rw [if_pos c14] at H
              have c14b0 : decide ((Go.bits .or .i64 (Go.bits .or .i64 (ji6) t238) (ji12)) < (a91_1.size : Int)) = true := decide_eq_true c14
              clear c14
              by_cases c16 : 0 ≤ a93_0
              · rw [if_pos c16] at H
                have c16b0 : decide (0 ≤ a93_0) = true := decide_eq_true c16
                clear c16
                by_cases c17 : a93_0 < (l92_0.length : Int)
                · rw [if_pos c17] at H
                  have c17b0 : decide (a93_0 < (l92_0.length : Int)) = true := decide_eq_true c17
                  clear c17
                  obtain ⟨bq18, hbq18⟩ : ∃ b_ : Bool, b_ = (rdOf false l92_0 a93_0) := ⟨_, rfl⟩
                  replace H : (if bq18 = true then (if (bt a91_1 (Go.bits .or .i64 (ji6) t238)) = 49 then (some ((bt a91_1 (Go.bits .or .i64 (Go.bits .or .i64 (ji6) t238) (ji12))) == 49)) else (some false)) else (if (bt a91_1 (Go.bits .or .i64 (ji6) t238)) = 49 then (some true) else (some ((bt a91_1 (Go.bits .or .i64 (Go.bits .or .i64 (ji6) t238) (ji12))) == 49)))) = some r := by rw [← hbq18] at H; exact H
                  have Nbq18 := Aside0.mk hbq18
                  clear hbq18
                  by_cases c19 : bq18 = true
                  · subst c19
                    have H1 : (if (bt a91_1 (Go.bits .or .i64 (ji6) t238)) = 49 then (some ((bt a91_1 (Go.bits .or .i64 (Go.bits .or .i64 (ji6) t238) (ji12))) == 49)) else (some false)) = some r := by rw [if_pos rfl] at H; exact H
                    clear H
                    have H := H1
                    clear H1
                    by_cases c20 : (bt a91_1 (Go.bits .or .i64 (ji6) t238)) = 49
                    · rw [if_pos c20] at H
                      have c20b0 : ((bt a91_1 (Go.bits .or .i64 (ji6) t238)) == 49) = true := beq_iff_eq.mpr c20
                      have c20b1 : ((bt a91_1 (Go.bits .or .i64 (ji6) t238)) != 49) = false := bne_eq_false_iff_eq.mpr c20
                      clear c20
                      obtain rfl := Option.some.inj H
                      have hnb21 := NB234_235.out
                      have hnc21 := NB235_234.out
                      have hnb22 := NB234_236.out
                      have hnc22 := NB236_234.out
                      have hnb23 := NB234_237.out
                      have hnc23 := NB237_234.out
                      have hcz24_0 : w.cell? ⟨g0_, 0, none⟩ = some (.int .u64 a90_0) := (blk_cell BK234.out 0).trans rfl
                      have hfz24_0 := blk_frozen BK234.out 0
                      go_enter Try.func63, Try.ntmps63
                      go_wp2_with (first | (go_at_call 64; (try simp only [i64_w, i32_w]); (with_reducible refine (impl_cut.calls (wrap64 (a90_0)) a0 t238 _ A7.out).mono ?_); rintro e w' ⟨rfl, ⟨nd, rfl⟩⟩; (try first | exact ⟨rfl, _, World.drewN_drewN _ _ _⟩ | exact ⟨rfl, _, Eq.trans (World.drewN_drewN _ _ _) (congrArg (World.drewN _) (Nat.add_assoc _ _ _))⟩); have hnb25 := NB235_236.out; have hnc25 := NB236_235.out; have hnb26 := NB235_237.out; have hnc26 := NB237_235.out; have hcz27_0 : w.cell? ⟨g1_, 0, none⟩ = some (.int .i64 a91_0) := (blk_cell BK235.out 0).trans rfl; have hcz27_1 : w.cell? ⟨g1_, 1, none⟩ = some (.string a91_1) := (blk_cell BK235.out 1).trans rfl; have hfz27_0 := blk_frozen BK235.out 0; have hfz27_1 := blk_frozen BK235.out 1; have p10 : 0 ≤ ((Go.bits .or .i64 (ji6) t238) : Int) := of_decide_eq_true (by first | (with_reducible assumption) | assumption); have q10 : (Go.bits .or .i64 (ji6) t238) < (a91_1.size : Int) := of_decide_eq_true (by first | (with_reducible assumption) | assumption); have hx10 := bt_at a91_1 (Go.bits .or .i64 (ji6) t238); replace p10 := eq_true p10; replace q10 := eq_true q10; have p15 : 0 ≤ ((Go.bits .or .i64 (Go.bits .or .i64 (ji6) t238) (ji12)) : Int) := of_decide_eq_true (by first | (with_reducible assumption) | assumption); have q15 : (Go.bits .or .i64 (Go.bits .or .i64 (ji6) t238) (ji12)) < (a91_1.size : Int) := of_decide_eq_true (by first | (with_reducible assumption) | assumption); have hx15 := bt_at a91_1 (Go.bits .or .i64 (Go.bits .or .i64 (ji6) t238) (ji12)); replace p15 := eq_true p15; replace q15 := eq_true q15; have hnb28 := NB236_237.out; have hnc28 := NB237_236.out; have hcz29_0 : w.cell? ⟨g2_, 0, none⟩ = some (.slice A92_0 l92_0.length c92_0) := (blk_cell BK236.out 0).trans rfl; have hfz29_0 := blk_frozen BK236.out 0; have hcz30_0 : w.cell? ⟨g3_, 0, none⟩ = some (.int .i64 a93_0) := (blk_cell BK237.out 0).trans rfl; have hfz30_0 := blk_frozen BK237.out 0; have p239 : 0 ≤ (a93_0 : Int) := of_decide_eq_true (by first | (with_reducible assumption) | assumption); have q239 : a93_0 < (l92_0.length : Int) := of_decide_eq_true (by first | (with_reducible assumption) | assumption); obtain ⟨ad239, e239, hx239_0⟩ := Kd.at_bool HR92_0.out a93_0 p239 q239; (try rw [← Nbq18.out] at hx239_0); cases e239; replace p239 := eq_true p239; replace q239 := eq_true q239))
                      repeat (go_quiet (first | (go_at_call 64; (try simp only [i64_w, i32_w]); (with_reducible refine (impl_cut.calls (wrap64 (a90_0)) a0 t238 _ A7.out).mono ?_); rintro e w' ⟨rfl, ⟨nd, rfl⟩⟩; (try first | exact ⟨rfl, _, World.drewN_drewN _ _ _⟩ | exact ⟨rfl, _, Eq.trans (World.drewN_drewN _ _ _) (congrArg (World.drewN _) (Nat.add_assoc _ _ _))⟩); have hnb25 := NB235_236.out; have hnc25 := NB236_235.out; have hnb26 := NB235_237.out; have hnc26 := NB237_235.out; have hcz27_0 : w.cell? ⟨g1_, 0, none⟩ = some (.int .i64 a91_0) := (blk_cell BK235.out 0).trans rfl; have hcz27_1 : w.cell? ⟨g1_, 1, none⟩ = some (.string a91_1) := (blk_cell BK235.out 1).trans rfl; have hfz27_0 := blk_frozen BK235.out 0; have hfz27_1 := blk_frozen BK235.out 1; have p10 : 0 ≤ ((Go.bits .or .i64 (ji6) t238) : Int) := of_decide_eq_true (by first | (with_reducible assumption) | assumption); have q10 : (Go.bits .or .i64 (ji6) t238) < (a91_1.size : Int) := of_decide_eq_true (by first | (with_reducible assumption) | assumption); have hx10 := bt_at a91_1 (Go.bits .or .i64 (ji6) t238); replace p10 := eq_true p10; replace q10 := eq_true q10; have p15 : 0 ≤ ((Go.bits .or .i64 (Go.bits .or .i64 (ji6) t238) (ji12)) : Int) := of_decide_eq_true (by first | (with_reducible assumption) | assumption); have q15 : (Go.bits .or .i64 (Go.bits .or .i64 (ji6) t238) (ji12)) < (a91_1.size : Int) := of_decide_eq_true (by first | (with_reducible assumption) | assumption); have hx15 := bt_at a91_1 (Go.bits .or .i64 (Go.bits .or .i64 (ji6) t238) (ji12)); replace p15 := eq_true p15; replace q15 := eq_true q15; have hnb28 := NB236_237.out; have hnc28 := NB237_236.out; have hcz29_0 : w.cell? ⟨g2_, 0, none⟩ = some (.slice A92_0 l92_0.length c92_0) := (blk_cell BK236.out 0).trans rfl; have hfz29_0 := blk_frozen BK236.out 0; have hcz30_0 : w.cell? ⟨g3_, 0, none⟩ = some (.int .i64 a93_0) := (blk_cell BK237.out 0).trans rfl; have hfz30_0 := blk_frozen BK237.out 0; have p239 : 0 ≤ (a93_0 : Int) := of_decide_eq_true (by first | (with_reducible assumption) | assumption); have q239 : a93_0 < (l92_0.length : Int) := of_decide_eq_true (by first | (with_reducible assumption) | assumption); obtain ⟨ad239, e239, hx239_0⟩ := Kd.at_bool HR92_0.out a93_0 p239 q239; (try rw [← Nbq18.out] at hx239_0); cases e239; replace p239 := eq_true p239; replace q239 := eq_true q239)); try go_wp2_with (first | (go_at_call 64; (try simp only [i64_w, i32_w]); (with_reducible refine (impl_cut.calls (wrap64 (a90_0)) a0 t238 _ A7.out).mono ?_); rintro e w' ⟨rfl, ⟨nd, rfl⟩⟩; (try first | exact ⟨rfl, _, World.drewN_drewN _ _ _⟩ | exact ⟨rfl, _, Eq.trans (World.drewN_drewN _ _ _) (congrArg (World.drewN _) (Nat.add_assoc _ _ _))⟩); have hnb25 := NB235_236.out; have hnc25 := NB236_235.out; have hnb26 := NB235_237.out; have hnc26 := NB237_235.out; have hcz27_0 : w.cell? ⟨g1_, 0, none⟩ = some (.int .i64 a91_0) := (blk_cell BK235.out 0).trans rfl; have hcz27_1 : w.cell? ⟨g1_, 1, none⟩ = some (.string a91_1) := (blk_cell BK235.out 1).trans rfl; have hfz27_0 := blk_frozen BK235.out 0; have hfz27_1 := blk_frozen BK235.out 1; have p10 : 0 ≤ ((Go.bits .or .i64 (ji6) t238) : Int) := of_decide_eq_true (by first | (with_reducible assumption) | assumption); have q10 : (Go.bits .or .i64 (ji6) t238) < (a91_1.size : Int) := of_decide_eq_true (by first | (with_reducible assumption) | assumption); have hx10 := bt_at a91_1 (Go.bits .or .i64 (ji6) t238); replace p10 := eq_true p10; replace q10 := eq_true q10; have p15 : 0 ≤ ((Go.bits .or .i64 (Go.bits .or .i64 (ji6) t238) (ji12)) : Int) := of_decide_eq_true (by first | (with_reducible assumption) | assumption); have q15 : (Go.bits .or .i64 (Go.bits .or .i64 (ji6) t238) (ji12)) < (a91_1.size : Int) := of_decide_eq_true (by first | (with_reducible assumption) | assumption); have hx15 := bt_at a91_1 (Go.bits .or .i64 (Go.bits .or .i64 (ji6) t238) (ji12)); replace p15 := eq_true p15; replace q15 := eq_true q15; have hnb28 := NB236_237.out; have hnc28 := NB237_236.out; have hcz29_0 : w.cell? ⟨g2_, 0, none⟩ = some (.slice A92_0 l92_0.length c92_0) := (blk_cell BK236.out 0).trans rfl; have hfz29_0 := blk_frozen BK236.out 0; have hcz30_0 : w.cell? ⟨g3_, 0, none⟩ = some (.int .i64 a93_0) := (blk_cell BK237.out 0).trans rfl; have hfz30_0 := blk_frozen BK237.out 0; have p239 : 0 ≤ (a93_0 : Int) := of_decide_eq_true (by first | (with_reducible assumption) | assumption); have q239 : a93_0 < (l92_0.length : Int) := of_decide_eq_true (by first | (with_reducible assumption) | assumption); obtain ⟨ad239, e239, hx239_0⟩ := Kd.at_bool HR92_0.out a93_0 p239 q239; (try rw [← Nbq18.out] at hx239_0); cases e239; replace p239 := eq_true p239; replace q239 := eq_true q239)))
                      go_ret
                      exact ⟨by first | rfl | (simp; done) | (simp only [← hji3, ← hji4, ← hji6, ← hji12] <;> (first | rfl | simp)) | (simp [*]; done), by repeat (first | exact Drawn0.refl _ | apply Drawn0.step)⟩
                    · rw [if_neg c20] at H
                      have c20b0 : ((bt a91_1 (Go.bits .or .i64 (ji6) t238)) == 49) = false := beq_eq_false_iff_ne.mpr c20
                      have c20b1 : ((bt a91_1 (Go.bits .or .i64 (ji6) t238)) != 49) = true := bne_iff_ne.mpr c20
                      obtain rfl := Option.some.inj H
                      have hnb31 := NB234_235.out
                      have hnc31 := NB235_234.out
                      have hnb32 := NB234_236.out
                      have hnc32 := NB236_234.out
                      have hnb33 := NB234_237.out
                      have hnc33 := NB237_234.out
                      have hcz34_0 : w.cell? ⟨g0_, 0, none⟩ = some (.int .u64 a90_0) := (blk_cell BK234.out 0).trans rfl
                      have hfz34_0 := blk_frozen BK234.out 0
                      go_enter Try.func63, Try.ntmps63
                      go_wp2_with (first | (go_at_call 64; (try simp only [i64_w, i32_w]); (with_reducible refine (impl_cut.calls (wrap64 (a90_0)) a0 t238 _ A7.out).mono ?_); rintro e w' ⟨rfl, ⟨nd, rfl⟩⟩; (try first | exact ⟨rfl, _, World.drewN_drewN _ _ _⟩ | exact ⟨rfl, _, Eq.trans (World.drewN_drewN _ _ _) (congrArg (World.drewN _) (Nat.add_assoc _ _ _))⟩); have hnb35 := NB235_236.out; have hnc35 := NB236_235.out; have hnb36 := NB235_237.out; have hnc36 := NB237_235.out; have hcz37_0 : w.cell? ⟨g1_, 0, none⟩ = some (.int .i64 a91_0) := (blk_cell BK235.out 0).trans rfl; have hcz37_1 : w.cell? ⟨g1_, 1, none⟩ = some (.string a91_1) := (blk_cell BK235.out 1).trans rfl; have hfz37_0 := blk_frozen BK235.out 0; have hfz37_1 := blk_frozen BK235.out 1; have p10 : 0 ≤ ((Go.bits .or .i64 (ji6) t238) : Int) := of_decide_eq_true (by first | (with_reducible assumption) | assumption); have q10 : (Go.bits .or .i64 (ji6) t238) < (a91_1.size : Int) := of_decide_eq_true (by first | (with_reducible assumption) | assumption); have hx10 := bt_at a91_1 (Go.bits .or .i64 (ji6) t238); replace p10 := eq_true p10; replace q10 := eq_true q10; have p15 : 0 ≤ ((Go.bits .or .i64 (Go.bits .or .i64 (ji6) t238) (ji12)) : Int) := of_decide_eq_true (by first | (with_reducible assumption) | assumption); have q15 : (Go.bits .or .i64 (Go.bits .or .i64 (ji6) t238) (ji12)) < (a91_1.size : Int) := of_decide_eq_true (by first | (with_reducible assumption) | assumption); have hx15 := bt_at a91_1 (Go.bits .or .i64 (Go.bits .or .i64 (ji6) t238) (ji12)); replace p15 := eq_true p15; replace q15 := eq_true q15; have hnb38 := NB236_237.out; have hnc38 := NB237_236.out; have hcz39_0 : w.cell? ⟨g2_, 0, none⟩ = some (.slice A92_0 l92_0.length c92_0) := (blk_cell BK236.out 0).trans rfl; have hfz39_0 := blk_frozen BK236.out 0; have hcz40_0 : w.cell? ⟨g3_, 0, none⟩ = some (.int .i64 a93_0) := (blk_cell BK237.out 0).trans rfl; have hfz40_0 := blk_frozen BK237.out 0; have p239 : 0 ≤ (a93_0 : Int) := of_decide_eq_true (by first | (with_reducible assumption) | assumption); have q239 : a93_0 < (l92_0.length : Int) := of_decide_eq_true (by first | (with_reducible assumption) | assumption); obtain ⟨ad239, e239, hx239_0⟩ := Kd.at_bool HR92_0.out a93_0 p239 q239; (try rw [← Nbq18.out] at hx239_0); cases e239; replace p239 := eq_true p239; replace q239 := eq_true q239))
                      repeat (go_quiet (first | (go_at_call 64; (try simp only [i64_w, i32_w]); (with_reducible refine (impl_cut.calls (wrap64 (a90_0)) a0 t238 _ A7.out).mono ?_); rintro e w' ⟨rfl, ⟨nd, rfl⟩⟩; (try first | exact ⟨rfl, _, World.drewN_drewN _ _ _⟩ | exact ⟨rfl, _, Eq.trans (World.drewN_drewN _ _ _) (congrArg (World.drewN _) (Nat.add_assoc _ _ _))⟩); have hnb35 := NB235_236.out; have hnc35 := NB236_235.out; have hnb36 := NB235_237.out; have hnc36 := NB237_235.out; have hcz37_0 : w.cell? ⟨g1_, 0, none⟩ = some (.int .i64 a91_0) := (blk_cell BK235.out 0).trans rfl; have hcz37_1 : w.cell? ⟨g1_, 1, none⟩ = some (.string a91_1) := (blk_cell BK235.out 1).trans rfl; have hfz37_0 := blk_frozen BK235.out 0; have hfz37_1 := blk_frozen BK235.out 1; have p10 : 0 ≤ ((Go.bits .or .i64 (ji6) t238) : Int) := of_decide_eq_true (by first | (with_reducible assumption) | assumption); have q10 : (Go.bits .or .i64 (ji6) t238) < (a91_1.size : Int) := of_decide_eq_true (by first | (with_reducible assumption) | assumption); have hx10 := bt_at a91_1 (Go.bits .or .i64 (ji6) t238); replace p10 := eq_true p10; replace q10 := eq_true q10; have p15 : 0 ≤ ((Go.bits .or .i64 (Go.bits .or .i64 (ji6) t238) (ji12)) : Int) := of_decide_eq_true (by first | (with_reducible assumption) | assumption); have q15 : (Go.bits .or .i64 (Go.bits .or .i64 (ji6) t238) (ji12)) < (a91_1.size : Int) := of_decide_eq_true (by first | (with_reducible assumption) | assumption); have hx15 := bt_at a91_1 (Go.bits .or .i64 (Go.bits .or .i64 (ji6) t238) (ji12)); replace p15 := eq_true p15; replace q15 := eq_true q15; have hnb38 := NB236_237.out; have hnc38 := NB237_236.out; have hcz39_0 : w.cell? ⟨g2_, 0, none⟩ = some (.slice A92_0 l92_0.length c92_0) := (blk_cell BK236.out 0).trans rfl; have hfz39_0 := blk_frozen BK236.out 0; have hcz40_0 : w.cell? ⟨g3_, 0, none⟩ = some (.int .i64 a93_0) := (blk_cell BK237.out 0).trans rfl; have hfz40_0 := blk_frozen BK237.out 0; have p239 : 0 ≤ (a93_0 : Int) := of_decide_eq_true (by first | (with_reducible assumption) | assumption); have q239 : a93_0 < (l92_0.length : Int) := of_decide_eq_true (by first | (with_reducible assumption) | assumption); obtain ⟨ad239, e239, hx239_0⟩ := Kd.at_bool HR92_0.out a93_0 p239 q239; (try rw [← Nbq18.out] at hx239_0); cases e239; replace p239 := eq_true p239; replace q239 := eq_true q239)); try go_wp2_with (first | (go_at_call 64; (try simp only [i64_w, i32_w]); (with_reducible refine (impl_cut.calls (wrap64 (a90_0)) a0 t238 _ A7.out).mono ?_); rintro e w' ⟨rfl, ⟨nd, rfl⟩⟩; (try first | exact ⟨rfl, _, World.drewN_drewN _ _ _⟩ | exact ⟨rfl, _, Eq.trans (World.drewN_drewN _ _ _) (congrArg (World.drewN _) (Nat.add_assoc _ _ _))⟩); have hnb35 := NB235_236.out; have hnc35 := NB236_235.out; have hnb36 := NB235_237.out; have hnc36 := NB237_235.out; have hcz37_0 : w.cell? ⟨g1_, 0, none⟩ = some (.int .i64 a91_0) := (blk_cell BK235.out 0).trans rfl; have hcz37_1 : w.cell? ⟨g1_, 1, none⟩ = some (.string a91_1) := (blk_cell BK235.out 1).trans rfl; have hfz37_0 := blk_frozen BK235.out 0; have hfz37_1 := blk_frozen BK235.out 1; have p10 : 0 ≤ ((Go.bits .or .i64 (ji6) t238) : Int) := of_decide_eq_true (by first | (with_reducible assumption) | assumption); have q10 : (Go.bits .or .i64 (ji6) t238) < (a91_1.size : Int) := of_decide_eq_true (by first | (with_reducible assumption) | assumption); have hx10 := bt_at a91_1 (Go.bits .or .i64 (ji6) t238); replace p10 := eq_true p10; replace q10 := eq_true q10; have p15 : 0 ≤ ((Go.bits .or .i64 (Go.bits .or .i64 (ji6) t238) (ji12)) : Int) := of_decide_eq_true (by first | (with_reducible assumption) | assumption); have q15 : (Go.bits .or .i64 (Go.bits .or .i64 (ji6) t238) (ji12)) < (a91_1.size : Int) := of_decide_eq_true (by first | (with_reducible assumption) | assumption); have hx15 := bt_at a91_1 (Go.bits .or .i64 (Go.bits .or .i64 (ji6) t238) (ji12)); replace p15 := eq_true p15; replace q15 := eq_true q15; have hnb38 := NB236_237.out; have hnc38 := NB237_236.out; have hcz39_0 : w.cell? ⟨g2_, 0, none⟩ = some (.slice A92_0 l92_0.length c92_0) := (blk_cell BK236.out 0).trans rfl; have hfz39_0 := blk_frozen BK236.out 0; have hcz40_0 : w.cell? ⟨g3_, 0, none⟩ = some (.int .i64 a93_0) := (blk_cell BK237.out 0).trans rfl; have hfz40_0 := blk_frozen BK237.out 0; have p239 : 0 ≤ (a93_0 : Int) := of_decide_eq_true (by first | (with_reducible assumption) | assumption); have q239 : a93_0 < (l92_0.length : Int) := of_decide_eq_true (by first | (with_reducible assumption) | assumption); obtain ⟨ad239, e239, hx239_0⟩ := Kd.at_bool HR92_0.out a93_0 p239 q239; (try rw [← Nbq18.out] at hx239_0); cases e239; replace p239 := eq_true p239; replace q239 := eq_true q239)))
                      go_ret
                      exact ⟨by first | rfl | (simp; done) | (simp only [← hji3, ← hji4, ← hji6, ← hji12] <;> (first | rfl | simp)) | (simp [*]; done), by repeat (first | exact Drawn0.refl _ | apply Drawn0.step)⟩
                  · replace c19 := Bool.eq_false_iff.mpr c19
                    subst c19
                    have H1 : (if (bt a91_1 (Go.bits .or .i64 (ji6) t238)) = 49 then (some true) else (some ((bt a91_1 (Go.bits .or .i64 (Go.bits .or .i64 (ji6) t238) (ji12))) == 49))) = some r := by rw [if_neg (show ¬ (false = true) by decide)] at H; exact H
                    clear H
                    have H := H1
                    clear H1
                    by_cases c41 : (bt a91_1 (Go.bits .or .i64 (ji6) t238)) = 49
                    · rw [if_pos c41] at H
                      have c41b0 : ((bt a91_1 (Go.bits .or .i64 (ji6) t238)) == 49) = true := beq_iff_eq.mpr c41
                      have c41b1 : ((bt a91_1 (Go.bits .or .i64 (ji6) t238)) != 49) = false := bne_eq_false_iff_eq.mpr c41
                      clear c41
                      obtain rfl := Option.some.inj H
                      have hnb42 := NB234_235.out
                      have hnc42 := NB235_234.out
                      have hnb43 := NB234_236.out
                      have hnc43 := NB236_234.out
                      have hnb44 := NB234_237.out
                      have hnc44 := NB237_234.out
                      have hcz45_0 : w.cell? ⟨g0_, 0, none⟩ = some (.int .u64 a90_0) := (blk_cell BK234.out 0).trans rfl
                      have hfz45_0 := blk_frozen BK234.out 0
                      go_enter Try.func63, Try.ntmps63
                      go_wp2_with (first | (go_at_call 64; (try simp only [i64_w, i32_w]); (with_reducible refine (impl_cut.calls (wrap64 (a90_0)) a0 t238 _ A7.out).mono ?_); rintro e w' ⟨rfl, ⟨nd, rfl⟩⟩; (try first | exact ⟨rfl, _, World.drewN_drewN _ _ _⟩ | exact ⟨rfl, _, Eq.trans (World.drewN_drewN _ _ _) (congrArg (World.drewN _) (Nat.add_assoc _ _ _))⟩); have hnb46 := NB235_236.out; have hnc46 := NB236_235.out; have hnb47 := NB235_237.out; have hnc47 := NB237_235.out; have hcz48_0 : w.cell? ⟨g1_, 0, none⟩ = some (.int .i64 a91_0) := (blk_cell BK235.out 0).trans rfl; have hcz48_1 : w.cell? ⟨g1_, 1, none⟩ = some (.string a91_1) := (blk_cell BK235.out 1).trans rfl; have hfz48_0 := blk_frozen BK235.out 0; have hfz48_1 := blk_frozen BK235.out 1; have p10 : 0 ≤ ((Go.bits .or .i64 (ji6) t238) : Int) := of_decide_eq_true (by first | (with_reducible assumption) | assumption); have q10 : (Go.bits .or .i64 (ji6) t238) < (a91_1.size : Int) := of_decide_eq_true (by first | (with_reducible assumption) | assumption); have hx10 := bt_at a91_1 (Go.bits .or .i64 (ji6) t238); replace p10 := eq_true p10; replace q10 := eq_true q10; have p15 : 0 ≤ ((Go.bits .or .i64 (Go.bits .or .i64 (ji6) t238) (ji12)) : Int) := of_decide_eq_true (by first | (with_reducible assumption) | assumption); have q15 : (Go.bits .or .i64 (Go.bits .or .i64 (ji6) t238) (ji12)) < (a91_1.size : Int) := of_decide_eq_true (by first | (with_reducible assumption) | assumption); have hx15 := bt_at a91_1 (Go.bits .or .i64 (Go.bits .or .i64 (ji6) t238) (ji12)); replace p15 := eq_true p15; replace q15 := eq_true q15; have hnb49 := NB236_237.out; have hnc49 := NB237_236.out; have hcz50_0 : w.cell? ⟨g2_, 0, none⟩ = some (.slice A92_0 l92_0.length c92_0) := (blk_cell BK236.out 0).trans rfl; have hfz50_0 := blk_frozen BK236.out 0; have hcz51_0 : w.cell? ⟨g3_, 0, none⟩ = some (.int .i64 a93_0) := (blk_cell BK237.out 0).trans rfl; have hfz51_0 := blk_frozen BK237.out 0; have p239 : 0 ≤ (a93_0 : Int) := of_decide_eq_true (by first | (with_reducible assumption) | assumption); have q239 : a93_0 < (l92_0.length : Int) := of_decide_eq_true (by first | (with_reducible assumption) | assumption); obtain ⟨ad239, e239, hx239_0⟩ := Kd.at_bool HR92_0.out a93_0 p239 q239; (try rw [← Nbq18.out] at hx239_0); cases e239; replace p239 := eq_true p239; replace q239 := eq_true q239))
                      repeat (go_quiet (first | (go_at_call 64; (try simp only [i64_w, i32_w]); (with_reducible refine (impl_cut.calls (wrap64 (a90_0)) a0 t238 _ A7.out).mono ?_); rintro e w' ⟨rfl, ⟨nd, rfl⟩⟩; (try first | exact ⟨rfl, _, World.drewN_drewN _ _ _⟩ | exact ⟨rfl, _, Eq.trans (World.drewN_drewN _ _ _) (congrArg (World.drewN _) (Nat.add_assoc _ _ _))⟩); have hnb46 := NB235_236.out; have hnc46 := NB236_235.out; have hnb47 := NB235_237.out; have hnc47 := NB237_235.out; have hcz48_0 : w.cell? ⟨g1_, 0, none⟩ = some (.int .i64 a91_0) := (blk_cell BK235.out 0).trans rfl; have hcz48_1 : w.cell? ⟨g1_, 1, none⟩ = some (.string a91_1) := (blk_cell BK235.out 1).trans rfl; have hfz48_0 := blk_frozen BK235.out 0; have hfz48_1 := blk_frozen BK235.out 1; have p10 : 0 ≤ ((Go.bits .or .i64 (ji6) t238) : Int) := of_decide_eq_true (by first | (with_reducible assumption) | assumption); have q10 : (Go.bits .or .i64 (ji6) t238) < (a91_1.size : Int) := of_decide_eq_true (by first | (with_reducible assumption) | assumption); have hx10 := bt_at a91_1 (Go.bits .or .i64 (ji6) t238); replace p10 := eq_true p10; replace q10 := eq_true q10; have p15 : 0 ≤ ((Go.bits .or .i64 (Go.bits .or .i64 (ji6) t238) (ji12)) : Int) := of_decide_eq_true (by first | (with_reducible assumption) | assumption); have q15 : (Go.bits .or .i64 (Go.bits .or .i64 (ji6) t238) (ji12)) < (a91_1.size : Int) := of_decide_eq_true (by first | (with_reducible assumption) | assumption); have hx15 := bt_at a91_1 (Go.bits .or .i64 (Go.bits .or .i64 (ji6) t238) (ji12)); replace p15 := eq_true p15; replace q15 := eq_true q15; have hnb49 := NB236_237.out; have hnc49 := NB237_236.out; have hcz50_0 : w.cell? ⟨g2_, 0, none⟩ = some (.slice A92_0 l92_0.length c92_0) := (blk_cell BK236.out 0).trans rfl; have hfz50_0 := blk_frozen BK236.out 0; have hcz51_0 : w.cell? ⟨g3_, 0, none⟩ = some (.int .i64 a93_0) := (blk_cell BK237.out 0).trans rfl; have hfz51_0 := blk_frozen BK237.out 0; have p239 : 0 ≤ (a93_0 : Int) := of_decide_eq_true (by first | (with_reducible assumption) | assumption); have q239 : a93_0 < (l92_0.length : Int) := of_decide_eq_true (by first | (with_reducible assumption) | assumption); obtain ⟨ad239, e239, hx239_0⟩ := Kd.at_bool HR92_0.out a93_0 p239 q239; (try rw [← Nbq18.out] at hx239_0); cases e239; replace p239 := eq_true p239; replace q239 := eq_true q239)); try go_wp2_with (first | (go_at_call 64; (try simp only [i64_w, i32_w]); (with_reducible refine (impl_cut.calls (wrap64 (a90_0)) a0 t238 _ A7.out).mono ?_); rintro e w' ⟨rfl, ⟨nd, rfl⟩⟩; (try first | exact ⟨rfl, _, World.drewN_drewN _ _ _⟩ | exact ⟨rfl, _, Eq.trans (World.drewN_drewN _ _ _) (congrArg (World.drewN _) (Nat.add_assoc _ _ _))⟩); have hnb46 := NB235_236.out; have hnc46 := NB236_235.out; have hnb47 := NB235_237.out; have hnc47 := NB237_235.out; have hcz48_0 : w.cell? ⟨g1_, 0, none⟩ = some (.int .i64 a91_0) := (blk_cell BK235.out 0).trans rfl; have hcz48_1 : w.cell? ⟨g1_, 1, none⟩ = some (.string a91_1) := (blk_cell BK235.out 1).trans rfl; have hfz48_0 := blk_frozen BK235.out 0; have hfz48_1 := blk_frozen BK235.out 1; have p10 : 0 ≤ ((Go.bits .or .i64 (ji6) t238) : Int) := of_decide_eq_true (by first | (with_reducible assumption) | assumption); have q10 : (Go.bits .or .i64 (ji6) t238) < (a91_1.size : Int) := of_decide_eq_true (by first | (with_reducible assumption) | assumption); have hx10 := bt_at a91_1 (Go.bits .or .i64 (ji6) t238); replace p10 := eq_true p10; replace q10 := eq_true q10; have p15 : 0 ≤ ((Go.bits .or .i64 (Go.bits .or .i64 (ji6) t238) (ji12)) : Int) := of_decide_eq_true (by first | (with_reducible assumption) | assumption); have q15 : (Go.bits .or .i64 (Go.bits .or .i64 (ji6) t238) (ji12)) < (a91_1.size : Int) := of_decide_eq_true (by first | (with_reducible assumption) | assumption); have hx15 := bt_at a91_1 (Go.bits .or .i64 (Go.bits .or .i64 (ji6) t238) (ji12)); replace p15 := eq_true p15; replace q15 := eq_true q15; have hnb49 := NB236_237.out; have hnc49 := NB237_236.out; have hcz50_0 : w.cell? ⟨g2_, 0, none⟩ = some (.slice A92_0 l92_0.length c92_0) := (blk_cell BK236.out 0).trans rfl; have hfz50_0 := blk_frozen BK236.out 0; have hcz51_0 : w.cell? ⟨g3_, 0, none⟩ = some (.int .i64 a93_0) := (blk_cell BK237.out 0).trans rfl; have hfz51_0 := blk_frozen BK237.out 0; have p239 : 0 ≤ (a93_0 : Int) := of_decide_eq_true (by first | (with_reducible assumption) | assumption); have q239 : a93_0 < (l92_0.length : Int) := of_decide_eq_true (by first | (with_reducible assumption) | assumption); obtain ⟨ad239, e239, hx239_0⟩ := Kd.at_bool HR92_0.out a93_0 p239 q239; (try rw [← Nbq18.out] at hx239_0); cases e239; replace p239 := eq_true p239; replace q239 := eq_true q239)))
                      go_ret
                      exact ⟨by first | rfl | (simp; done) | (simp only [← hji3, ← hji4, ← hji6, ← hji12] <;> (first | rfl | simp)) | (simp [*]; done), by repeat (first | exact Drawn0.refl _ | apply Drawn0.step)⟩
                    · rw [if_neg c41] at H
                      have c41b0 : ((bt a91_1 (Go.bits .or .i64 (ji6) t238)) == 49) = false := beq_eq_false_iff_ne.mpr c41
                      have c41b1 : ((bt a91_1 (Go.bits .or .i64 (ji6) t238)) != 49) = true := bne_iff_ne.mpr c41
                      obtain rfl := Option.some.inj H
                      have hnb52 := NB234_235.out
                      have hnc52 := NB235_234.out
                      have hnb53 := NB234_236.out
                      have hnc53 := NB236_234.out
                      have hnb54 := NB234_237.out
                      have hnc54 := NB237_234.out
                      have hcz55_0 : w.cell? ⟨g0_, 0, none⟩ = some (.int .u64 a90_0) := (blk_cell BK234.out 0).trans rfl
                      have hfz55_0 := blk_frozen BK234.out 0
                      go_enter Try.func63, Try.ntmps63
                      go_wp2_with (first | (go_at_call 64; (try simp only [i64_w, i32_w]); (with_reducible refine (impl_cut.calls (wrap64 (a90_0)) a0 t238 _ A7.out).mono ?_); rintro e w' ⟨rfl, ⟨nd, rfl⟩⟩; (try first | exact ⟨rfl, _, World.drewN_drewN _ _ _⟩ | exact ⟨rfl, _, Eq.trans (World.drewN_drewN _ _ _) (congrArg (World.drewN _) (Nat.add_assoc _ _ _))⟩); have hnb56 := NB235_236.out; have hnc56 := NB236_235.out; have hnb57 := NB235_237.out; have hnc57 := NB237_235.out; have hcz58_0 : w.cell? ⟨g1_, 0, none⟩ = some (.int .i64 a91_0) := (blk_cell BK235.out 0).trans rfl; have hcz58_1 : w.cell? ⟨g1_, 1, none⟩ = some (.string a91_1) := (blk_cell BK235.out 1).trans rfl; have hfz58_0 := blk_frozen BK235.out 0; have hfz58_1 := blk_frozen BK235.out 1; have p10 : 0 ≤ ((Go.bits .or .i64 (ji6) t238) : Int) := of_decide_eq_true (by first | (with_reducible assumption) | assumption); have q10 : (Go.bits .or .i64 (ji6) t238) < (a91_1.size : Int) := of_decide_eq_true (by first | (with_reducible assumption) | assumption); have hx10 := bt_at a91_1 (Go.bits .or .i64 (ji6) t238); replace p10 := eq_true p10; replace q10 := eq_true q10; have p15 : 0 ≤ ((Go.bits .or .i64 (Go.bits .or .i64 (ji6) t238) (ji12)) : Int) := of_decide_eq_true (by first | (with_reducible assumption) | assumption); have q15 : (Go.bits .or .i64 (Go.bits .or .i64 (ji6) t238) (ji12)) < (a91_1.size : Int) := of_decide_eq_true (by first | (with_reducible assumption) | assumption); have hx15 := bt_at a91_1 (Go.bits .or .i64 (Go.bits .or .i64 (ji6) t238) (ji12)); replace p15 := eq_true p15; replace q15 := eq_true q15; have hnb59 := NB236_237.out; have hnc59 := NB237_236.out; have hcz60_0 : w.cell? ⟨g2_, 0, none⟩ = some (.slice A92_0 l92_0.length c92_0) := (blk_cell BK236.out 0).trans rfl; have hfz60_0 := blk_frozen BK236.out 0; have hcz61_0 : w.cell? ⟨g3_, 0, none⟩ = some (.int .i64 a93_0) := (blk_cell BK237.out 0).trans rfl; have hfz61_0 := blk_frozen BK237.out 0; have p239 : 0 ≤ (a93_0 : Int) := of_decide_eq_true (by first | (with_reducible assumption) | assumption); have q239 : a93_0 < (l92_0.length : Int) := of_decide_eq_true (by first | (with_reducible assumption) | assumption); obtain ⟨ad239, e239, hx239_0⟩ := Kd.at_bool HR92_0.out a93_0 p239 q239; (try rw [← Nbq18.out] at hx239_0); cases e239; replace p239 := eq_true p239; replace q239 := eq_true q239))
                      repeat (go_quiet (first | (go_at_call 64; (try simp only [i64_w, i32_w]); (with_reducible refine (impl_cut.calls (wrap64 (a90_0)) a0 t238 _ A7.out).mono ?_); rintro e w' ⟨rfl, ⟨nd, rfl⟩⟩; (try first | exact ⟨rfl, _, World.drewN_drewN _ _ _⟩ | exact ⟨rfl, _, Eq.trans (World.drewN_drewN _ _ _) (congrArg (World.drewN _) (Nat.add_assoc _ _ _))⟩); have hnb56 := NB235_236.out; have hnc56 := NB236_235.out; have hnb57 := NB235_237.out; have hnc57 := NB237_235.out; have hcz58_0 : w.cell? ⟨g1_, 0, none⟩ = some (.int .i64 a91_0) := (blk_cell BK235.out 0).trans rfl; have hcz58_1 : w.cell? ⟨g1_, 1, none⟩ = some (.string a91_1) := (blk_cell BK235.out 1).trans rfl; have hfz58_0 := blk_frozen BK235.out 0; have hfz58_1 := blk_frozen BK235.out 1; have p10 : 0 ≤ ((Go.bits .or .i64 (ji6) t238) : Int) := of_decide_eq_true (by first | (with_reducible assumption) | assumption); have q10 : (Go.bits .or .i64 (ji6) t238) < (a91_1.size : Int) := of_decide_eq_true (by first | (with_reducible assumption) | assumption); have hx10 := bt_at a91_1 (Go.bits .or .i64 (ji6) t238); replace p10 := eq_true p10; replace q10 := eq_true q10; have p15 : 0 ≤ ((Go.bits .or .i64 (Go.bits .or .i64 (ji6) t238) (ji12)) : Int) := of_decide_eq_true (by first | (with_reducible assumption) | assumption); have q15 : (Go.bits .or .i64 (Go.bits .or .i64 (ji6) t238) (ji12)) < (a91_1.size : Int) := of_decide_eq_true (by first | (with_reducible assumption) | assumption); have hx15 := bt_at a91_1 (Go.bits .or .i64 (Go.bits .or .i64 (ji6) t238) (ji12)); replace p15 := eq_true p15; replace q15 := eq_true q15; have hnb59 := NB236_237.out; have hnc59 := NB237_236.out; have hcz60_0 : w.cell? ⟨g2_, 0, none⟩ = some (.slice A92_0 l92_0.length c92_0) := (blk_cell BK236.out 0).trans rfl; have hfz60_0 := blk_frozen BK236.out 0; have hcz61_0 : w.cell? ⟨g3_, 0, none⟩ = some (.int .i64 a93_0) := (blk_cell BK237.out 0).trans rfl; have hfz61_0 := blk_frozen BK237.out 0; have p239 : 0 ≤ (a93_0 : Int) := of_decide_eq_true (by first | (with_reducible assumption) | assumption); have q239 : a93_0 < (l92_0.length : Int) := of_decide_eq_true (by first | (with_reducible assumption) | assumption); obtain ⟨ad239, e239, hx239_0⟩ := Kd.at_bool HR92_0.out a93_0 p239 q239; (try rw [← Nbq18.out] at hx239_0); cases e239; replace p239 := eq_true p239; replace q239 := eq_true q239)); try go_wp2_with (first | (go_at_call 64; (try simp only [i64_w, i32_w]); (with_reducible refine (impl_cut.calls (wrap64 (a90_0)) a0 t238 _ A7.out).mono ?_); rintro e w' ⟨rfl, ⟨nd, rfl⟩⟩; (try first | exact ⟨rfl, _, World.drewN_drewN _ _ _⟩ | exact ⟨rfl, _, Eq.trans (World.drewN_drewN _ _ _) (congrArg (World.drewN _) (Nat.add_assoc _ _ _))⟩); have hnb56 := NB235_236.out; have hnc56 := NB236_235.out; have hnb57 := NB235_237.out; have hnc57 := NB237_235.out; have hcz58_0 : w.cell? ⟨g1_, 0, none⟩ = some (.int .i64 a91_0) := (blk_cell BK235.out 0).trans rfl; have hcz58_1 : w.cell? ⟨g1_, 1, none⟩ = some (.string a91_1) := (blk_cell BK235.out 1).trans rfl; have hfz58_0 := blk_frozen BK235.out 0; have hfz58_1 := blk_frozen BK235.out 1; have p10 : 0 ≤ ((Go.bits .or .i64 (ji6) t238) : Int) := of_decide_eq_true (by first | (with_reducible assumption) | assumption); have q10 : (Go.bits .or .i64 (ji6) t238) < (a91_1.size : Int) := of_decide_eq_true (by first | (with_reducible assumption) | assumption); have hx10 := bt_at a91_1 (Go.bits .or .i64 (ji6) t238); replace p10 := eq_true p10; replace q10 := eq_true q10; have p15 : 0 ≤ ((Go.bits .or .i64 (Go.bits .or .i64 (ji6) t238) (ji12)) : Int) := of_decide_eq_true (by first | (with_reducible assumption) | assumption); have q15 : (Go.bits .or .i64 (Go.bits .or .i64 (ji6) t238) (ji12)) < (a91_1.size : Int) := of_decide_eq_true (by first | (with_reducible assumption) | assumption); have hx15 := bt_at a91_1 (Go.bits .or .i64 (Go.bits .or .i64 (ji6) t238) (ji12)); replace p15 := eq_true p15; replace q15 := eq_true q15; have hnb59 := NB236_237.out; have hnc59 := NB237_236.out; have hcz60_0 : w.cell? ⟨g2_, 0, none⟩ = some (.slice A92_0 l92_0.length c92_0) := (blk_cell BK236.out 0).trans rfl; have hfz60_0 := blk_frozen BK236.out 0; have hcz61_0 : w.cell? ⟨g3_, 0, none⟩ = some (.int .i64 a93_0) := (blk_cell BK237.out 0).trans rfl; have hfz61_0 := blk_frozen BK237.out 0; have p239 : 0 ≤ (a93_0 : Int) := of_decide_eq_true (by first | (with_reducible assumption) | assumption); have q239 : a93_0 < (l92_0.length : Int) := of_decide_eq_true (by first | (with_reducible assumption) | assumption); obtain ⟨ad239, e239, hx239_0⟩ := Kd.at_bool HR92_0.out a93_0 p239 q239; (try rw [← Nbq18.out] at hx239_0); cases e239; replace p239 := eq_true p239; replace q239 := eq_true q239)))
                      go_ret
                      exact ⟨by first | rfl | (simp; done) | (simp only [← hji3, ← hji4, ← hji6, ← hji12] <;> (first | rfl | simp)) | (simp [*]; done), by repeat (first | exact Drawn0.refl _ | apply Drawn0.step)⟩
                · rw [if_neg c17] at H
                  exact absurd H (by simp)
              · rw [if_neg c16] at H
                exact absurd H (by simp)
            · rw [if_neg c14] at H
              exact absurd H (by simp)
          · rw [if_neg c13] at H
            exact absurd H (by simp)
        · rw [if_neg c9] at H
          exact absurd H (by simp)
      · rw [if_neg c8] at H
        exact absurd H (by simp)
    · rw [if_neg c5] at H
      exact absurd H (by simp)
  · rw [if_neg c2] at H
    exact absurd H (by simp)

end Go.Proofs.Ythipjoioicmcnaa.G
-- written by a program of this session (wip/gen/gen.py); Lean checks it
namespace Go.Proofs.Ythipjoioicmcnaa.G
open Go.RowKit Go.Proofs.YthipjoioicmcnaaW.PrintWords Go.Proofs.YthipjoioicmcnaaW.PrintLast Go.Proofs.YthipjoioicmcnaaW.PrintMore
attribute [local go_sem] max2_int min2_int max_two min_two max_three min_three max_four min_four   -- for this text's walks alone
set_option linter.unusedVariables false
set_option linter.unusedSimpArgs false

/-! ### impl_sign: function 88 -/
def impl_sign.f (a0 : Int) : Option (Int) := some ((wrap64 (48 + (Go.bits .and .i64 a0 1))) % 256)
set_option maxHeartbeats 8000000 in
set_option maxRecDepth 100000 in
theorem impl_sign.calls (a0 : Int) (r : Int) (w : World) (h : impl_sign.f a0 = some r) :
    Calls Try.prog 88 #[.int .i64 a0] w fun e w' => e = .returned (.int .u8 r) ∧ Drawn0 w w' := by
  have H : (some ((wrap64 (48 + (Go.bits .and .i64 a0 1))) % 256)) = some r := h
  clear h
  obtain rfl := Option.some.inj H
  go_enter Try.func88, Try.ntmps88
  go_wp2
  go_ret
  exact ⟨by first | rfl | (simp; done) | (simp [*]; done), by repeat (first | exact Drawn0.refl _ | apply Drawn0.step)⟩

end Go.Proofs.Ythipjoioicmcnaa.G
-- written by a program of this session (wip/gen/gen.py); Lean checks it
namespace Go.Proofs.Ythipjoioicmcnaa.G
open Go.RowKit Go.Proofs.YthipjoioicmcnaaW.PrintWords Go.Proofs.YthipjoioicmcnaaW.PrintLast Go.Proofs.YthipjoioicmcnaaW.PrintMore
attribute [local go_sem] max2_int min2_int max_two min_two max_three min_three max_four min_four   -- for this text's walks alone
set_option linter.unusedVariables false
set_option linter.unusedSimpArgs false

open Go.Proofs.Ythipjoioicmcnaa.Fv
/-! ### impl_Table_each: function 62 -/
def impl_Table_each.l0 (a1 : (Int → Option Bool)) : Nat → List Int → Int → Int → Int → ByteArray → Option (Int × ByteArray)
  | 0, _, _, _, _, _ => none
  | k + 1, x5, x12, x13, x226000, x226001 => if x13 < x12 then ((a1 x13).bind fun t230 => ((impl_bit.f t230).bind fun t231 => ((impl_sign.f t231).bind fun t232 => (if 0 ≤ x13 then (if x13 < (x5.length : Int) then (impl_Table_each.l0 a1 k (x5.set (x13 : Int).toNat t232) x12 (wrap64 (x13 + 1)) x226000 x226001) else (none)) else (none))))) else (some (x226000, strOfNums x5))
def impl_Table_each.f (k : Nat) (a0_0 : Int) (a0_1 : ByteArray) (a1 : (Int → Option Bool)) : Option (Int × ByteArray) := if 0 ≤ (a0_1.size : Int) then (if ((a0_1.size : Int) : Int).toNat ≤ 281474976710656 then ((some (List.replicate ((a0_1.size : Int) : Int).toNat 0 : List Int)).bind fun y227 => (impl_Table_each.l0 a1 k y227 (y227.length : Int) 0 a0_0 a0_1)) else (none)) else (none)
set_option maxHeartbeats 8000000 in
set_option maxRecDepth 100000 in
theorem impl_Table_each.calls (k : Nat) (a0_0 : Int) (a0_1 : ByteArray) (c1_ : Nat) (q1_ : Array Value) (a1 : (Int → Option Bool)) (r1 : Int) (r2 : ByteArray) (w : World) (hf1_ : Enterable Try.prog c1_) (hp1_ : ∀ W_, Below w.heap.size w W_ → ∀ x_ r_, a1 x_ = some r_ → Calls Try.prog c1_ (#[.int .i64 x_] ++ q1_) W_ fun e_ W2_ => e_ = .returned (.bool r_) ∧ Below W_.heap.size W_ W2_) (h : impl_Table_each.f k a0_0 a0_1 a1 = some (r1, r2)) :
    Calls Try.prog 62 #[.agg #[.int .i64 a0_0, .string a0_1], .func (.func c1_) #[] q1_] w fun e w' => e = .returned (.agg #[.int .i64 r1, .string r2]) ∧ Below w.heap.size w w' := by
  have hu26 := Try.underlying26
  have HF1_ := hf1_
  have HP1_ := Aside0.mk hp1_
  clear hf1_ hp1_
  have HB := Aside0.mk (Below.refl w.heap.size w)
  have H : (if 0 ≤ (a0_1.size : Int) then (if ((a0_1.size : Int) : Int).toNat ≤ 281474976710656 then ((some (List.replicate ((a0_1.size : Int) : Int).toNat 0 : List Int)).bind fun y227 => (impl_Table_each.l0 a1 k y227 (y227.length : Int) 0 a0_0 a0_1)) else (none)) else (none)) = some (r1, r2) := h
  clear h
  by_cases c3 : 0 ≤ (a0_1.size : Int)
  · rw [if_pos c3] at H
    have c3b0 := eq_true c3
    have c3b1 : decide (0 ≤ (a0_1.size : Int)) = true := decide_eq_true c3
    clear c3
    by_cases c4 : ((a0_1.size : Int) : Int).toNat ≤ 281474976710656
    · rw [if_pos c4] at H
      have c4b0 := eq_true c4
      have c4b1 : decide (((a0_1.size : Int) : Int).toNat ≤ 281474976710656) = true := decide_eq_true c4
      clear c4
      obtain ⟨y227, hy227⟩ : ∃ y_ : List Int, y_ = (List.replicate ((a0_1.size : Int) : Int).toNat 0) := ⟨_, rfl⟩
      replace H : (impl_Table_each.l0 a1 k y227 (y227.length : Int) 0 a0_0 a0_1) = some (r1, r2) := by first | (rw [hy227]; with_reducible exact H) | (have H2_ := (Option.bind_some _ _).symm.trans H; rw [hy227]; with_reducible exact H2_) | (have H2_ := (Option.bind_some _ _).symm.trans H; with_reducible exact H2_) | with_reducible exact H | (rw [hy227]; exact H) | exact H
      have Ny227 := Aside0.mk hy227
      clear hy227
      have H' := Aside0.mk H
      clear H
      go_enter Try.func62, Try.ntmps62
      go_wp2_with (first | ((with_reducible refine gate_dst (N := 2) rfl ?_); refine box_event ?hg (N := 2) ?hd (cs := #[.int .i64 a0_0, .string a0_1]) (t := 26) ?hr ?_; (case hd => rfl); (case hg => rfl); (case hr => first | (go_simp; done) | (go_simp; rfl)); intro gb225 hg w5 hbox hb; have n0_ := Aside0.mk (below_step (by repeat (first | (with_reducible first | exact HB.out | apply below_alloc | apply pw_below_drewN | apply below_drew1) | exact HB.out)) hb); have n1_ := Aside0.mk (hbox); have n2_ := Aside0.mk ((by rw [hg]; exact (below_size (by repeat (first | (with_reducible first | exact HB.out | apply below_alloc | apply pw_below_drewN | apply below_drew1) | exact HB.out))) : w.heap.size ≤ gb225)); have n3_ := Aside0.mk ((by rw [hg]; exact (below_size (by repeat (first | (with_reducible first | exact HB.out | apply below_alloc | apply pw_below_drewN | apply below_drew1) | exact HB.out))) : w.heap.size ≤ gb225)); clear HB; have HB := n0_; have BK225 := n1_; have GW225 := n2_; have GE225 := n3_; clear n0_ n1_ n2_ n3_; clear hb hbox hg) | ((with_reducible refine gate_dst (N := 4) rfl ?_); refine box_event ?hg (N := 4) ?hd (cs := #[.int .i64 0, .string (⟨#[]⟩ : ByteArray)]) (t := 26) ?hr ?_; (case hd => rfl); (case hg => rfl); (case hr => first | (go_simp; done) | (go_simp; rfl)); intro gb226 hg w6 hbox hb; have n0_ := Aside0.mk (blk_below (g := gb225) (o := .cells #[.int .i64 a0_0, .string a0_1] 26 (0, 0)) (by (with_reducible repeat (first | refine blk_drewN ?_ _ | refine blk_drew ?_ | refine blk_alloc ?_ _)); exact BK225.out) hb); have n1_ := Aside0.mk (below_step (by repeat (first | (with_reducible first | exact HB.out | apply below_alloc | apply pw_below_drewN | apply below_drew1 | refine below_set ?_ GE225.out) | exact HB.out)) hb); have n2_ := Aside0.mk (hbox); have n3_ := Aside0.mk ((by rw [hg]; exact (below_size (by repeat (first | (with_reducible first | exact HB.out | apply below_alloc | apply pw_below_drewN | apply below_drew1 | refine below_set ?_ GE225.out) | exact HB.out))) : w.heap.size ≤ gb226)); have n4_ := Aside0.mk ((by rw [hg]; exact (below_size (by repeat (first | (with_reducible first | exact HB.out | apply below_alloc | apply pw_below_drewN | apply below_drew1 | refine below_set ?_ GE225.out) | exact HB.out))) : w.heap.size ≤ gb226)); have n5_ := Aside0.mk ((by rw [hg]; exact Nat.ne_of_lt (blk_lt (g := gb225) (o := .cells #[.int .i64 a0_0, .string a0_1] 26 (0, 0)) (by (with_reducible repeat (first | refine blk_drewN ?_ _ | refine blk_drew ?_ | refine blk_alloc ?_ _)); exact BK225.out)) : gb225 ≠ gb226)); have n6_ := Aside0.mk ((by rw [hg]; exact Nat.ne_of_gt (blk_lt (g := gb225) (o := .cells #[.int .i64 a0_0, .string a0_1] 26 (0, 0)) (by (with_reducible repeat (first | refine blk_drewN ?_ _ | refine blk_drew ?_ | refine blk_alloc ?_ _)); exact BK225.out)) : gb226 ≠ gb225)); clear BK225; clear HB; have BK225 := n0_; have HB := n1_; have BK226 := n2_; have GW226 := n3_; have GE226 := n4_; have NB225_226 := n5_; have NB226_225 := n6_; clear n0_ n1_ n2_ n3_ n4_ n5_ n6_; clear hb hbox hg; have hnb7 := NB225_226.out; have hnc7 := NB226_225.out; have hcz8_0 : w6.cell? ⟨gb225, 0, none⟩ = some (.int .i64 a0_0) := (blk_cell BK225.out 0).trans rfl; have hcz8_1 : w6.cell? ⟨gb225, 1, none⟩ = some (.string a0_1) := (blk_cell BK225.out 1).trans rfl; have hfz8_0 := blk_frozen BK225.out 0; have hfz8_1 := blk_frozen BK225.out 1) | ((with_reducible refine gate_dst (N := 10) rfl ?_); refine Kd.R_make (Kd.int .u8) _ 5 rfl (N := 10) rfl 22 _ _ rfl (a0_1.size : Int) rfl rfl Try.underlying22 (.int .u8 0) 1 info5 rfl (by decide) (by omega) 0 (ok := fun _ => True) (okp := fun _ => True) rfl (fun _ hk => hk) trivial (of_decide_eq_true (by first | (with_reducible assumption) | assumption)) (Nat.le_trans (Nat.mul_le_mul_right _ (of_decide_eq_true (by first | (with_reducible assumption) | assumption) : (a0_1.size : Int).toNat ≤ 281474976710656)) (by omega)) (Below.refl _ _) (Nat.le_refl _) ?_; intro v228 w9 ho10 hb hg_ hnew_; clear hg_ hnew_; (first | rw [← Ny227.out] at ho10 | (simp only [Int.reduceToNat] at ho10; rw [← Ny227.out] at ho10)); have n0_ := Aside0.mk (Kd.R_lower ho10 (below_size (by repeat (first | (with_reducible first | exact HB.out | apply below_alloc | apply pw_below_drewN | apply below_drew1 | refine below_set ?_ GE225.out | refine below_set ?_ GE226.out) | exact HB.out)))); have n1_ := Aside0.mk (blk_below (g := gb225) (o := .cells #[.int .i64 a0_0, .string a0_1] 26 (0, 0)) (by (with_reducible repeat (first | refine blk_drewN ?_ _ | refine blk_drew ?_ | refine blk_alloc ?_ _)); exact BK225.out) hb); have n2_ := Aside0.mk (blk_below (g := gb226) (o := .cells #[.int .i64 0, .string (⟨#[]⟩ : ByteArray)] 26 (0, 0)) (by (with_reducible repeat (first | refine blk_drewN ?_ _ | refine blk_drew ?_ | refine blk_alloc ?_ _)); exact BK226.out) hb); have n3_ := Aside0.mk (below_step (by repeat (first | (with_reducible first | exact HB.out | apply below_alloc | apply pw_below_drewN | apply below_drew1 | refine below_set ?_ GE225.out | refine below_set ?_ GE226.out) | exact HB.out)) hb); clear BK225; clear BK226; clear HB; have HO229 := n0_; have BK225 := n1_; have BK226 := n2_; have HB := n3_; clear n0_ n1_ n2_ n3_; clear hb ho10; obtain ⟨Ao11, co11, eo11⟩ := Kd.R_slice HO229.out; subst eo11))
      go_loopg [13] k (fun kq v13 w' => ∃ (x5_1 : List Int) (x13_1 : Int), v13 = .int .i64 x13_1 ∧ Aside0 (impl_Table_each.l0 a1 kq x5_1 (y227.length : Int) x13_1 a0_0 a0_1 = some (r1, r2)) ∧ Aside0 (kq ≤ k) ∧ Aside0 (Kd.R (Kd.int .u8) 5 w' w.heap.size (fun _ => True) (.slice Ao11 y227.length co11) x5_1) ∧ Aside0 (w'.heap[gb225]? = some (.cells #[.int .i64 a0_0, .string a0_1] 26 (0, 0))) ∧ Aside0 (w'.heap[gb226]? = some (.cells #[.int .i64 0, .string (⟨#[]⟩ : ByteArray)] 26 (0, 0))) ∧ Aside0 (Below w.heap.size w w'))
      case atStart => exact ⟨(y227), (0), (by first | rfl | (simp; done) | (simp [*]; done)), H', ⟨Nat.le_refl _⟩, ⟨by (with_reducible repeat (first | apply Kd.R_alloc | apply Kd.R_drewN | apply Kd.R_drew)); exact HO229.out⟩, ⟨by (with_reducible repeat (first | refine blk_drewN ?_ _ | refine blk_drew ?_ | refine blk_alloc ?_ _)); exact BK225.out⟩, ⟨by (with_reducible repeat (first | refine blk_drewN ?_ _ | refine blk_drew ?_ | refine blk_alloc ?_ _)); exact BK226.out⟩, ⟨by repeat (first | (with_reducible first | exact HB.out | apply below_alloc | apply pw_below_drewN | apply below_drew1 | refine below_set ?_ GE225.out | refine below_set ?_ GE226.out) | exact HB.out)⟩⟩
      case round =>
        clear H'
        try clear p1
        try clear p2
        try clear c3
        try clear c3b0
        try clear c3b1
        try clear c4
        try clear c4b0
        try clear c4b1
        try clear c6
        try clear c7
        try clear hcz8_0
        try clear hcz8_1
        try clear hfz8_0
        try clear hfz8_1
        obtain ⟨x5_1, x13_1, rfl, HA, HK1, HO_5, BK225, BK226, HB⟩ := hrel
        have hl5_1 := (Kd.R_reads' HO_5.out).1
        rw [hl5_1] at HO_5
        (try simp only [hl5_1])
        (try simp only [hl5_1] at BK225)
        (try simp only [hl5_1] at BK226)
        cases gk with
        | zero => exact absurd HA.out (by simp [impl_Table_each.l0])
        | succ k1 =>
          have H := HA.out
          clear HA
          simp only [impl_Table_each.l0] at H
          by_cases c12 : x13_1 < (y227.length : Int)
          · rw [if_pos c12] at H
            have c12b0 : decide (x13_1 < (y227.length : Int)) = true := decide_eq_true c12
            clear c12
            (try (have c12h0 := c12b0; simp only [hl5_1] at c12h0))
            replace H := Option.bind_eq_some_iff.mp H
            obtain ⟨t230, A130, H⟩ := H
            replace H : ((impl_bit.f t230).bind fun t231 => ((impl_sign.f t231).bind fun t232 => (if 0 ≤ x13_1 then (if x13_1 < (x5_1.length : Int) then (impl_Table_each.l0 a1 k1 (x5_1.set (x13_1 : Int).toNat t232) (y227.length : Int) (wrap64 (x13_1 + 1)) a0_0 a0_1) else (none)) else (none)))) = some (r1, r2) := H
            have A13 := Aside0.mk A130
            clear A130
            replace H := Option.bind_eq_some_iff.mp H
            obtain ⟨t231, A140, H⟩ := H
            replace H : ((impl_sign.f t231).bind fun t232 => (if 0 ≤ x13_1 then (if x13_1 < (x5_1.length : Int) then (impl_Table_each.l0 a1 k1 (x5_1.set (x13_1 : Int).toNat t232) (y227.length : Int) (wrap64 (x13_1 + 1)) a0_0 a0_1) else (none)) else (none))) = some (r1, r2) := H
            have A14 := Aside0.mk A140
            clear A140
            replace H := Option.bind_eq_some_iff.mp H
            obtain ⟨t232, A150, H⟩ := H
            replace H : (if 0 ≤ x13_1 then (if x13_1 < (x5_1.length : Int) then (impl_Table_each.l0 a1 k1 (x5_1.set (x13_1 : Int).toNat t232) (y227.length : Int) (wrap64 (x13_1 + 1)) a0_0 a0_1) else (none)) else (none)) = some (r1, r2) := H
            have A15 := Aside0.mk A150
            clear A150
            by_cases c16 : 0 ≤ x13_1
            · rw [if_pos c16] at H
              have c16b0 : decide (0 ≤ x13_1) = true := decide_eq_true c16
              clear c16
              by_cases c17 : x13_1 < (x5_1.length : Int)
              · rw [if_pos c17] at H
                have c17b0 : decide (x13_1 < (x5_1.length : Int)) = true := decide_eq_true c17
                clear c17
                (try (have c17h0 := c17b0; simp only [hl5_1] at c17h0))
                obtain ⟨y233, hy233⟩ : ∃ y_ : List Int, y_ = (x5_1.set (x13_1 : Int).toNat t232) := ⟨_, rfl⟩
                replace H : (impl_Table_each.l0 a1 k1 y233 (y227.length : Int) (wrap64 (x13_1 + 1)) a0_0 a0_1) = some (r1, r2) := by first | (rw [hy233]; with_reducible exact H) | (have H2_ := (Option.bind_some _ _).symm.trans H; rw [hy233]; with_reducible exact H2_) | (have H2_ := (Option.bind_some _ _).symm.trans H; with_reducible exact H2_) | with_reducible exact H | (rw [hy233]; exact H) | exact H
                have Ny233 := Aside0.mk hy233
                clear hy233
                have H' := Aside0.mk H
                clear H
                go_wp2_with (first | ((with_reducible refine gate_calleeV (q := .tmp 18) rfl ?_); refine goesV_ (some 20) rfl rfl HF1_ (by first | rfl | (go_simp; done)) #[.int .i64 x13_1] rfl (by (try simp only [List.map_toArray, List.map_cons, List.map_nil]); first | done | rfl | (simp only [List.length_drop, List.length_take]; rfl)) ?_; (with_reducible refine (HP1_.out _ (by repeat (first | (with_reducible first | exact HB.out | apply below_alloc | apply pw_below_drewN | apply below_drew1 | refine below_set ?_ GE225.out | refine below_set ?_ GE226.out) | exact HB.out)) x13_1 t230 A13.out).mono ?_); rintro e w19 ⟨rfl, hb⟩; refine ⟨_, rfl, ?_⟩; have n0_ := Aside0.mk (Kd.R_below (by (with_reducible repeat (first | apply Kd.R_alloc | apply Kd.R_drewN | apply Kd.R_drew)); exact HO_5.out) hb); have n1_ := Aside0.mk (blk_below (g := gb225) (o := .cells #[.int .i64 a0_0, .string a0_1] 26 (0, 0)) (by (with_reducible repeat (first | refine blk_drewN ?_ _ | refine blk_drew ?_ | refine blk_alloc ?_ _)); exact BK225.out) hb); have n2_ := Aside0.mk (blk_below (g := gb226) (o := .cells #[.int .i64 0, .string (⟨#[]⟩ : ByteArray)] 26 (0, 0)) (by (with_reducible repeat (first | refine blk_drewN ?_ _ | refine blk_drew ?_ | refine blk_alloc ?_ _)); exact BK226.out) hb); have n3_ := Aside0.mk (below_step (by repeat (first | (with_reducible first | exact HB.out | apply below_alloc | apply pw_below_drewN | apply below_drew1 | refine below_set ?_ GE225.out | refine below_set ?_ GE226.out) | exact HB.out)) hb); clear HO_5; clear BK225; clear BK226; clear HB; have HO_5 := n0_; have BK225 := n1_; have BK226 := n2_; have HB := n3_; clear n0_ n1_ n2_ n3_; (try clear hb); (try clear hb2); (try clear hk); (try clear hi)) | ((with_reducible refine gate_callee (f := 111) rfl ?_); refine goesL_ (some 21) rfl rfl Try.func111 (by kernel_rfl) rfl #[.bool t230] rfl (by (try simp only [List.map_toArray, List.map_cons, List.map_nil]); first | done | rfl | (simp only [List.length_drop, List.length_take]; rfl)) ?_; (with_reducible refine (impl_bit.calls t230 t231 _ A14.out).mono ?_); rintro e w' ⟨rfl, ⟨nd, rfl⟩⟩; refine ⟨_, rfl, ?_⟩; (try (rw [drewN_self w19]; generalize hq_ : World.drewN w19 _ = w19; have n0_ : Aside0 (Kd.R (Kd.int .u8) 5 w19 w.heap.size (fun _ => True) (.slice Ao11 x5_1.length co11) x5_1) := ⟨by rw [← hq_]; exact (by (with_reducible repeat (first | apply Kd.R_alloc | apply Kd.R_drewN | apply Kd.R_drew)); exact HO_5.out)⟩; have n1_ : Aside0 (w19.heap[gb225]? = some (.cells #[.int .i64 a0_0, .string a0_1] 26 (0, 0))) := ⟨by rw [← hq_]; exact (by (with_reducible repeat (first | refine blk_drewN ?_ _ | refine blk_drew ?_ | refine blk_alloc ?_ _)); exact BK225.out)⟩; have n2_ : Aside0 (w19.heap[gb226]? = some (.cells #[.int .i64 0, .string (⟨#[]⟩ : ByteArray)] 26 (0, 0))) := ⟨by rw [← hq_]; exact (by (with_reducible repeat (first | refine blk_drewN ?_ _ | refine blk_drew ?_ | refine blk_alloc ?_ _)); exact BK226.out)⟩; have n3_ : Aside0 (Below w.heap.size w w19) := ⟨by rw [← hq_]; exact (by repeat (first | (with_reducible first | exact HB.out | apply below_alloc | apply pw_below_drewN | apply below_drew1 | refine below_set ?_ GE225.out | refine below_set ?_ GE226.out) | exact HB.out))⟩; clear HO_5 BK225 BK226 HB hq_; have HO_5 := n0_; have BK225 := n1_; have BK226 := n2_; have HB := n3_; clear n0_ n1_ n2_ n3_))) | ((with_reducible refine gate_callee (f := 88) rfl ?_); refine goesL_ (some 22) rfl rfl Try.func88 (by kernel_rfl) rfl #[.int .i64 t231] rfl (by (try simp only [List.map_toArray, List.map_cons, List.map_nil]); first | done | rfl | (simp only [List.length_drop, List.length_take]; rfl)) ?_; (with_reducible refine (impl_sign.calls t231 t232 _ A15.out).mono ?_); rintro e w' ⟨rfl, ⟨nd, rfl⟩⟩; refine ⟨_, rfl, ?_⟩; (try (rw [drewN_self w19]; generalize hq_ : World.drewN w19 _ = w19; have n0_ : Aside0 (Kd.R (Kd.int .u8) 5 w19 w.heap.size (fun _ => True) (.slice Ao11 x5_1.length co11) x5_1) := ⟨by rw [← hq_]; exact (by (with_reducible repeat (first | apply Kd.R_alloc | apply Kd.R_drewN | apply Kd.R_drew)); exact HO_5.out)⟩; have n1_ : Aside0 (w19.heap[gb225]? = some (.cells #[.int .i64 a0_0, .string a0_1] 26 (0, 0))) := ⟨by rw [← hq_]; exact (by (with_reducible repeat (first | refine blk_drewN ?_ _ | refine blk_drew ?_ | refine blk_alloc ?_ _)); exact BK225.out)⟩; have n2_ : Aside0 (w19.heap[gb226]? = some (.cells #[.int .i64 0, .string (⟨#[]⟩ : ByteArray)] 26 (0, 0))) := ⟨by rw [← hq_]; exact (by (with_reducible repeat (first | refine blk_drewN ?_ _ | refine blk_drew ?_ | refine blk_alloc ?_ _)); exact BK226.out)⟩; have n3_ : Aside0 (Below w.heap.size w w19) := ⟨by rw [← hq_]; exact (by repeat (first | (with_reducible first | exact HB.out | apply below_alloc | apply pw_below_drewN | apply below_drew1 | refine below_set ?_ GE225.out | refine below_set ?_ GE226.out) | exact HB.out))⟩; clear HO_5 BK225 BK226 HB hq_; have HO_5 := n0_; have BK225 := n1_; have BK226 := n2_; have HB := n3_; clear n0_ n1_ n2_ n3_)); have p18 : 0 ≤ (x13_1 : Int) := of_decide_eq_true (by first | (with_reducible assumption) | assumption); have q18 : (x13_1 : Int) < ((x5_1.length : Int) : Int) := of_decide_eq_true (by first | (with_reducible assumption) | assumption); obtain ⟨go18, co18, eo18, gb18, gl18, cl18, HG18⟩ := Kd.R_form HO_5.out (by omega); (first | cases eo18 | (injection eo18 with ea_ en_ ec_; (first | subst ea_ | (injection ea_ with ea_; subst ea_)); subst ec_; clear en_)); have GB18 := Aside0.mk gb18; have GG18 := Aside0.mk HG18; clear gb18 gl18 HG18; obtain ⟨hx18_0, hf18_0⟩ := Kd.R_celln 0 HO_5.out (x13_1 : Int) p18 q18; replace p18 := eq_true p18; replace q18 := eq_true q18; obtain ⟨hy20_, hz20_⟩ := Kd.R_celln 0 HO_5.out (x13_1 : Int) (of_decide_eq_true (by first | (with_reducible assumption) | assumption)) (of_decide_eq_true (by first | (with_reducible assumption) | assumption)); have HP20 := Kd.R_putg HO_5.out (x13_1 : Int) t232) | ((with_reducible refine gate_store (t := 5) (p := 23) rfl ?_); refine store_event (t := 5) (p := 23) (v := ?vo_w21) (w1 := (w19.setCell ⟨go18, (x13_1 : Int).toNat, none⟩ (.int .u8 t232))) ?hg ?ho ?hn ?hr ?_; (case ho => rfl); (case hg => rfl); (case hn => rfl); (case hr => first | (go_simp; done) | (go_simp; rfl)); intro w21 hw; have hg : w19.grownBy w21 (some go18) := (by rw [hw]; exact HP20.2); have hp_ : Kd.R (Kd.int .u8) 5 w21 w.heap.size (fun _ => True) (.slice (some ⟨go18, 0, none⟩) x5_1.length co11) y233 := (by rw [hw, Ny233.out]; exact HP20.1); clear HP20; have n0_ := Aside0.mk (hp_); have n1_ := Aside0.mk (blk_grown (g := gb225) (o := .cells #[.int .i64 a0_0, .string a0_1] 26 (0, 0)) (by (with_reducible repeat (first | refine blk_drewN ?_ _ | refine blk_drew ?_ | refine blk_alloc ?_ _)); exact BK225.out) hg (Kd.R_ne HO_5.out BK225.out (by decide))); have n2_ := Aside0.mk (blk_grown (g := gb226) (o := .cells #[.int .i64 0, .string (⟨#[]⟩ : ByteArray)] 26 (0, 0)) (by (with_reducible repeat (first | refine blk_drewN ?_ _ | refine blk_drew ?_ | refine blk_alloc ?_ _)); exact BK226.out) hg (Kd.R_ne HO_5.out BK226.out (by decide))); have n3_ := Aside0.mk ((by rw [hw]; exact below_set (HB.out) GB18.out : Below w.heap.size w w21)); clear HO_5; clear BK225; clear BK226; clear HB; have HO_5 := n0_; have BK225 := n1_; have BK226 := n2_; have HB := n3_; clear n0_ n1_ n2_ n3_; clear hg hw hp_))
                (try simp only [← hl5_1])
                go_roundg k1
                case measure => have := HK1.out; omega
                case rel => exact ⟨(y233), (wrap64 (x13_1 + 1)), (by first | rfl | (simp; done) | (simp [*]; done)), H', ⟨by have := HK1.out; omega⟩, ⟨by (try simp only [hl5_1]); (with_reducible repeat (first | apply Kd.R_alloc | apply Kd.R_drewN | apply Kd.R_drew)); exact HO_5.out⟩, ⟨by (try simp only [hl5_1]); (with_reducible repeat (first | refine blk_drewN ?_ _ | refine blk_drew ?_ | refine blk_alloc ?_ _)); exact BK225.out⟩, ⟨by (try simp only [hl5_1]); (with_reducible repeat (first | refine blk_drewN ?_ _ | refine blk_drew ?_ | refine blk_alloc ?_ _)); exact BK226.out⟩, ⟨by repeat (first | (with_reducible first | exact HB.out | apply below_alloc | apply pw_below_drewN | apply below_drew1 | refine below_set ?_ GE225.out | refine below_set ?_ GE226.out) | exact HB.out)⟩⟩
              · rw [if_neg c17] at H
                (try (have c17h0 := c17b0; simp only [hl5_1] at c17h0))
                exact absurd H (by simp)
            · rw [if_neg c16] at H
              exact absurd H (by simp)
          · rw [if_neg c12] at H
            have c12b0 : decide (x13_1 < (y227.length : Int)) = false := decide_eq_false c12
            clear c12
            (try (have c12h0 := c12b0; simp only [hl5_1] at c12h0))
            simp only [Option.some.injEq, Prod.mk.injEq] at H
            obtain ⟨rfl, rfl⟩ := H
            have hnb22 := NB225_226.out
            have hnc22 := NB226_225.out
            have hcz23_0 : wr.cell? ⟨gb225, 0, none⟩ = some (.int .i64 a0_0) := (blk_cell BK225.out 0).trans rfl
            have hcz23_1 : wr.cell? ⟨gb225, 1, none⟩ = some (.string a0_1) := (blk_cell BK225.out 1).trans rfl
            have hfz23_0 := blk_frozen BK225.out 0
            have hfz23_1 := blk_frozen BK225.out 1
            have hcv24 := own_string (P := Try.prog) Try.underlying22 Try.underlying5 Try.underlying9 (Kd.own_of_R HO_5.out)
            have hcz25_0 : wr.cell? ⟨gb226, 0, none⟩ = some (.int .i64 0) := (blk_cell BK226.out 0).trans rfl
            have hcz25_1 : wr.cell? ⟨gb226, 1, none⟩ = some (.string (⟨#[]⟩ : ByteArray)) := (blk_cell BK226.out 1).trans rfl
            have hfz25_0 := blk_frozen BK226.out 0
            have hfz25_1 := blk_frozen BK226.out 1
            go_wp2
            refine bodyPost_ret (results_cell_row rfl _ _ gb226 26 #[.int .i64 a0_0, .string (strOfNums x5_1)] (0, 0) _ rfl (by (with_reducible repeat (first | refine blk_drewN ?_ _ | refine blk_drew ?_ | refine blk_alloc ?_ _)); refine blk_put (cs := #[.int .i64 a0_0, .string (⟨#[]⟩ : ByteArray)]) ?_ 1 _ rfl; (with_reducible repeat (first | refine blk_drewN ?_ _ | refine blk_drew ?_ | refine blk_alloc ?_ _)); refine blk_put (cs := #[.int .i64 0, .string (⟨#[]⟩ : ByteArray)]) ?_ 0 _ rfl; (with_reducible repeat (first | refine blk_drewN ?_ _ | refine blk_drew ?_ | refine blk_alloc ?_ _)); exact BK226.out) Try.underlying26 rfl (by kernel_rfl)) rfl ?_
            exact ⟨by first | rfl | (simp [errW_none, errW_some] <;> rfl) | (simp [*, errW_none, errW_some] <;> rfl), by repeat (first | (with_reducible first | exact HB.out | apply below_alloc | apply pw_below_drewN | apply below_drew1 | refine below_set ?_ GE225.out | refine below_set ?_ GE226.out) | exact HB.out)⟩
    · rw [if_neg c4] at H
      exact absurd H (by simp)
  · rw [if_neg c3] at H
    exact absurd H (by simp)

end Go.Proofs.Ythipjoioicmcnaa.G
