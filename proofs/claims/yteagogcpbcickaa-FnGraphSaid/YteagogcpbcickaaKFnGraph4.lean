-- texts of this session, merged by a program of it (wip/gen/pack.py)
import Derived.Test.YteagogcpbcickaaKFnGraph2
import Derived.Test.YteagogcpbcickaaKFnGraph3
import Derived.Test.YteagogcpbcickaaKFnGraph1
namespace Go.Proofs.Yteagogcpbcickaa.G
open Go.RowKit Go.Proofs.YteagogcpbcickaaW.PrintWords Go.Proofs.YteagogcpbcickaaW.PrintLast Go.Proofs.YteagogcpbcickaaW.PrintMore
attribute [local go_sem] max2_int min2_int max_two min_two max_three min_three max_four min_four   -- for this text's walks alone
set_option linter.unusedVariables false
set_option linter.unusedSimpArgs false
mutual
def impl_TableOk.j0 : Nat → Bool → Int → ByteArray → Option (Bool)
  | 0, _, _, _ => none
  | k + 1, x17, x102000, x102001 => if x17 = true then (some false) else (impl_TableOk.l0 k (x102001.size : Int) 0 x102000 x102001)
def impl_TableOk.l0 : Nat → Int → Int → Int → ByteArray → Option (Bool)
  | 0, _, _, _, _ => none
  | k + 1, x20, x21, x102000, x102001 => if x21 < x20 then (if 0 ≤ x21 then (if x21 < (x102001.size : Int) then (if (bt x102001 x21) = 48 then (impl_TableOk.l0 k x20 (wrap64 (x21 + 1)) x102000 x102001) else (if (bt x102001 x21) = 49 then (impl_TableOk.l0 k x20 (wrap64 (x21 + 1)) x102000 x102001) else (some false))) else (none)) else (none)) else (some true)
end
def impl_TableOk.f (k : Nat) (a0_0 : Int) (a0_1 : ByteArray) : Option (Bool) := (impl_within.f a0_0 0 12).bind fun t102 => (if t102 = true then (if 0 ≤ (IntKind.u64.wrap (a0_0)) then (impl_TableOk.j0 k ((a0_1.size : Int) != (shl .i64 1 (IntKind.u64.wrap (a0_0)))) a0_0 a0_1) else (none)) else (impl_TableOk.j0 k true a0_0 a0_1))
set_option maxHeartbeats 8000000 in
set_option maxRecDepth 100000 in
theorem impl_TableOk.calls (k : Nat) (a0_0 : Int) (a0_1 : ByteArray) (r : Bool) (w : World) (h : impl_TableOk.f k a0_0 a0_1 = some r) :
    Calls Try.prog 84 #[.agg #[.int .i64 a0_0, .string a0_1]] w fun e w' => e = .returned (.bool r) ∧ Below w.heap.size w w' := by
  have hu36 := Try.underlying36
  have HB := Aside0.mk (Below.refl w.heap.size w)
  have H : ((impl_within.f a0_0 0 12).bind fun t102 => (if t102 = true then (if 0 ≤ (IntKind.u64.wrap (a0_0)) then (impl_TableOk.j0 k ((a0_1.size : Int) != (shl .i64 1 (IntKind.u64.wrap (a0_0)))) a0_0 a0_1) else (none)) else (impl_TableOk.j0 k true a0_0 a0_1))) = some r := h
  clear h
  have HC2 := Aside0.mk H
  clear H
  go_enter Try.func84, Try.ntmps84
  go_upto_region 1 with (first | ((with_reducible refine gate_dst (N := 1) rfl ?_); (try (refine gate_guard (by rfl) ?_; dsimp only)); refine box_event ?hg (N := 1) ?hd (cs := #[.int .i64 a0_0, .string a0_1]) (t := 36) ?hr ?_; (case hd => rfl); (case hg => rfl); (case hr => first | (go_simp; done) | (go_simp; rfl)); intro gb101 hg w3 hbox hb; have n0_ := Aside0.mk (below_step (by repeat (first | (with_reducible first | exact HB.out | apply below_alloc | apply pw_below_drewN | apply below_drew1) | exact HB.out)) hb); have n1_ := Aside0.mk (hbox); have n2_ := Aside0.mk ((by rw [hg]; exact (below_size (by repeat (first | (with_reducible first | exact HB.out | apply below_alloc | apply pw_below_drewN | apply below_drew1) | exact HB.out))) : w.heap.size ≤ gb101)); have n3_ := Aside0.mk ((by rw [hg]; exact (below_size (by repeat (first | (with_reducible first | exact HB.out | apply below_alloc | apply pw_below_drewN | apply below_drew1) | exact HB.out))) : w.heap.size ≤ gb101)); clear HB; have HB := n0_; have BK101 := n1_; have GW101 := n2_; have GE101 := n3_; clear n0_ n1_ n2_ n3_; clear hb hbox hg))
  (try simp only [Act.put, List.setIfInBounds_toArray, List.set_cons_zero, List.set_cons_succ])
  go_cut [17] (fun v17 wc => ∃ (kq : Nat) (x17_1 : Bool), v17 = .bool x17_1 ∧ Aside0 (impl_TableOk.j0 kq x17_1 a0_0 a0_1 = some r) ∧ Aside0 (kq ≤ k) ∧ Aside0 (wc.heap[gb101]? = some (.cells #[.int .i64 a0_0, .string a0_1] 36 (0, 0))) ∧ Aside0 (Below w.heap.size w wc))
  case first =>
    have H := HC2.out
    clear HC2
    replace H := Option.bind_eq_some_iff.mp H
    obtain ⟨t102, A40, H⟩ := H
    replace H : (if t102 = true then (if 0 ≤ (IntKind.u64.wrap (a0_0)) then (impl_TableOk.j0 k ((a0_1.size : Int) != (shl .i64 1 (IntKind.u64.wrap (a0_0)))) a0_0 a0_1) else (none)) else (impl_TableOk.j0 k true a0_0 a0_1)) = some r := H
    have A4 := Aside0.mk A40
    clear A40
    by_cases c5 : t102 = true
    · subst c5
      have H1 : (if 0 ≤ (IntKind.u64.wrap (a0_0)) then (impl_TableOk.j0 k ((a0_1.size : Int) != (shl .i64 1 (IntKind.u64.wrap (a0_0)))) a0_0 a0_1) else (none)) = some r := by rw [if_pos rfl] at H; exact H
      clear H
      have H := H1
      clear H1
      obtain ⟨ji6, hji6⟩ : ∃ j_ : Int, (IntKind.u64.wrap (a0_0)) = j_ := ⟨_, rfl⟩
      replace H : (if 0 ≤ (ji6) then (impl_TableOk.j0 k ((a0_1.size : Int) != (shl .i64 1 (ji6))) a0_0 a0_1) else (none)) = some r := by first | (rw [hji6] at H; exact H) | (simp only [hji6] at H ⊢; exact H)
      (try rw [hji6] at A4)
      by_cases c7 : 0 ≤ (ji6)
      · rw [if_pos c7] at H
        have c7b0 := eq_true c7
        have c7b1 : decide (0 ≤ (ji6)) = true := decide_eq_true c7
        clear c7
        obtain ⟨ji8, hji8⟩ : ∃ j_ : Int, (shl .i64 1 (ji6)) = j_ := ⟨_, rfl⟩
        replace H : (impl_TableOk.j0 k ((a0_1.size : Int) != (ji8)) a0_0 a0_1) = some r := by first | (rw [hji8] at H; exact H) | (simp only [hji8] at H ⊢; exact H)
        (try rw [hji8] at A4)
        have hji8_ : (IntKind.i64.wrap (1 * 2 ^ min (ji6).toNat 64)) = ji8 := hji8
        have hji8z : (ji6) ≤ 64 → (IntKind.i64.wrap (1 * 2 ^ (ji6).toNat)) = ji8 := shl_small hji8
        have hji8u : (IntKind.i64.wrap (2 ^ min (ji6).toNat 64)) = ji8 := by have h_ := hji8_; rw [Int.one_mul] at h_; exact h_
        have hji8v : (ji6) ≤ 64 → (IntKind.i64.wrap (2 ^ (ji6).toNat)) = ji8 := fun hle_ => by have h_ := hji8z hle_; rw [Int.one_mul] at h_; exact h_
        have hji8y : (wrap64 (1 * 2 ^ min (ji6).toNat 64)) = ji8 := (i64_w _).symm.trans hji8_
        have hji8x : (ji6) ≤ 64 → (wrap64 (1 * 2 ^ (ji6).toNat)) = ji8 := fun h_ => (i64_w _).symm.trans (hji8z h_)
        have H' := Aside0.mk H
        clear H
        have hcz9_0 : w3.cell? ⟨gb101, 0, none⟩ = some (.int .i64 a0_0) := (blk_cell BK101.out 0).trans rfl
        have hcz9_1 : w3.cell? ⟨gb101, 1, none⟩ = some (.string a0_1) := (blk_cell BK101.out 1).trans rfl
        have hfz9_0 := blk_frozen BK101.out 0
        have hfz9_1 := blk_frozen BK101.out 1
        go_wp2_with (first | ((with_reducible refine gate_callee (f := 60) rfl ?_); refine goesL_ (some 6) rfl rfl Try.func60 (by kernel_rfl) rfl #[.int .i64 a0_0, .int .i64 0, .int .i64 12] rfl (by (try simp only [List.map_toArray, List.map_cons, List.map_nil]); first | done | rfl | (simp only [List.length_drop, List.length_take]; rfl)) ?_; (with_reducible refine (impl_within.calls a0_0 0 12 true _ A4.out).mono ?_); rintro e w' ⟨rfl, ⟨nd, rfl⟩⟩; refine ⟨_, rfl, ?_⟩))
        go_meet
        case rel => exact ⟨_, (((a0_1.size : Int) != (ji8))), (by first | rfl | (simp; done) | (simp only [← hji8] <;> (first | rfl | simp)) | (simp [*]; done)), H', ⟨by first | omega | exact Nat.le_refl _⟩, ⟨by (with_reducible repeat (first | refine blk_drewN ?_ _ | refine blk_drew ?_ | refine blk_alloc ?_ _)); exact BK101.out⟩, ⟨by repeat (first | (with_reducible first | exact HB.out | apply below_alloc | apply pw_below_drewN | apply below_drew1 | refine below_set ?_ GE101.out) | exact HB.out)⟩⟩
      · rw [if_neg c7] at H
        exact absurd H (by simp)
    · replace c5 := Bool.eq_false_iff.mpr c5
      subst c5
      have H1 : (impl_TableOk.j0 k true a0_0 a0_1) = some r := by rw [if_neg (show ¬ (false = true) by decide)] at H; exact H
      clear H
      have H := H1
      clear H1
      have H' := Aside0.mk H
      clear H
      have hcz10_0 : w3.cell? ⟨gb101, 0, none⟩ = some (.int .i64 a0_0) := (blk_cell BK101.out 0).trans rfl
      have hcz10_1 : w3.cell? ⟨gb101, 1, none⟩ = some (.string a0_1) := (blk_cell BK101.out 1).trans rfl
      have hfz10_0 := blk_frozen BK101.out 0
      have hfz10_1 := blk_frozen BK101.out 1
      go_wp2_with (first | ((with_reducible refine gate_callee (f := 60) rfl ?_); refine goesL_ (some 6) rfl rfl Try.func60 (by kernel_rfl) rfl #[.int .i64 a0_0, .int .i64 0, .int .i64 12] rfl (by (try simp only [List.map_toArray, List.map_cons, List.map_nil]); first | done | rfl | (simp only [List.length_drop, List.length_take]; rfl)) ?_; (with_reducible refine (impl_within.calls a0_0 0 12 false _ A4.out).mono ?_); rintro e w' ⟨rfl, ⟨nd, rfl⟩⟩; refine ⟨_, rfl, ?_⟩))
      go_meet
      case rel => exact ⟨_, (true), (by first | rfl | (simp; done) | (simp [*]; done)), H', ⟨by first | omega | exact Nat.le_refl _⟩, ⟨by (with_reducible repeat (first | refine blk_drewN ?_ _ | refine blk_drew ?_ | refine blk_alloc ?_ _)); exact BK101.out⟩, ⟨by repeat (first | (with_reducible first | exact HB.out | apply below_alloc | apply pw_below_drewN | apply below_drew1 | refine below_set ?_ GE101.out) | exact HB.out)⟩⟩
  case rest =>
    clear HC2
    try clear p2
    try clear c5
    try clear c6
    try clear p6
    try clear c7
    try clear c7b0
    try clear c7b1
    try clear c8
    try clear hcz10_0
    try clear hcz10_1
    try clear hcz9_0
    try clear hcz9_1
    try clear hfz10_0
    try clear hfz10_1
    try clear hfz9_0
    try clear hfz9_1
    obtain ⟨kq, x17_1, rfl, HA, HJ1, BK101, HB⟩ := hcut
    cases kq with
    | zero => exact absurd HA.out (by simp [impl_TableOk.j0])
    | succ kj1 =>
      have H := HA.out
      clear HA
      simp only [impl_TableOk.j0] at H
      by_cases c11 : x17_1 = true
      · subst c11
        have H1 : (some false) = some r := by rw [if_pos rfl] at H; exact H
        clear H
        have H := H1
        clear H1
        obtain rfl := Option.some.inj H
        go_wp2
        go_ret
        exact ⟨by first | rfl | (simp [errW_none, errW_some] <;> rfl) | (simp [*, errW_none, errW_some] <;> rfl), by repeat (first | (with_reducible first | exact HB.out | apply below_alloc | apply pw_below_drewN | apply below_drew1 | refine below_set ?_ GE101.out) | exact HB.out)⟩
      · replace c11 := Bool.eq_false_iff.mpr c11
        subst c11
        have H1 : (impl_TableOk.l0 kj1 (a0_1.size : Int) 0 a0_0 a0_1) = some r := by rw [if_neg (show ¬ (false = true) by decide)] at H; exact H
        clear H
        have H := H1
        clear H1
        have H' := Aside0.mk H
        clear H
        have hcz12_0 : wc.cell? ⟨gb101, 0, none⟩ = some (.int .i64 a0_0) := (blk_cell BK101.out 0).trans rfl
        have hcz12_1 : wc.cell? ⟨gb101, 1, none⟩ = some (.string a0_1) := (blk_cell BK101.out 1).trans rfl
        have hfz12_0 := blk_frozen BK101.out 0
        have hfz12_1 := blk_frozen BK101.out 1
        go_wp2
        go_loopg [21] kj1 (fun kq v21 w' => ∃ (x21_2 : Int), v21 = .int .i64 x21_2 ∧ Aside0 (impl_TableOk.l0 kq (a0_1.size : Int) x21_2 a0_0 a0_1 = some r) ∧ Aside0 (kq ≤ kj1) ∧ Aside0 (w'.heap[gb101]? = some (.cells #[.int .i64 a0_0, .string a0_1] 36 (0, 0))) ∧ Aside0 (Below w.heap.size w w'))
        case atStart => exact ⟨(0), (by first | rfl | (simp; done) | (simp [*]; done)), H', ⟨Nat.le_refl _⟩, ⟨by (with_reducible repeat (first | refine blk_drewN ?_ _ | refine blk_drew ?_ | refine blk_alloc ?_ _)); exact BK101.out⟩, ⟨by repeat (first | (with_reducible first | exact HB.out | apply below_alloc | apply pw_below_drewN | apply below_drew1 | refine below_set ?_ GE101.out) | exact HB.out)⟩⟩
        case round =>
          clear H'
          try clear c1
          try clear p2
          try clear c5
          try clear c6
          try clear p6
          try clear c7
          try clear c7b0
          try clear c7b1
          try clear c8
          try clear c11
          try clear hcz10_0
          try clear hcz10_1
          try clear hcz12_0
          try clear hcz12_1
          try clear hcz9_0
          try clear hcz9_1
          try clear hfz10_0
          try clear hfz10_1
          try clear hfz12_0
          try clear hfz12_1
          try clear hfz9_0
          try clear hfz9_1
          try clear p2
          try clear p6
          obtain ⟨x21_2, rfl, HA, HK2, BK101, HB⟩ := hrel
          cases gk with
          | zero => exact absurd HA.out (by simp [impl_TableOk.l0])
          | succ k2 =>
            have H := HA.out
            clear HA
            simp only [impl_TableOk.l0] at H
            by_cases c13 : x21_2 < (a0_1.size : Int)
            · rw [if_pos c13] at H
              have c13b0 : decide (x21_2 < (a0_1.size : Int)) = true := decide_eq_true c13
              clear c13
              by_cases c14 : 0 ≤ x21_2
              · rw [if_pos c14] at H
                have c14b0 : decide (0 ≤ x21_2) = true := decide_eq_true c14
                clear c14
                by_cases c15 : x21_2 < (a0_1.size : Int)
                · rw [if_pos c15] at H
                  have c15b0 : decide (x21_2 < (a0_1.size : Int)) = true := decide_eq_true c15
                  clear c15
                  by_cases c17 : (bt a0_1 x21_2) = 48
                  · rw [if_pos c17] at H
                    have c17b0 : ((bt a0_1 x21_2) == 48) = true := beq_iff_eq.mpr c17
                    have c17b1 : ((bt a0_1 x21_2) != 48) = false := bne_eq_false_iff_eq.mpr c17
                    clear c17
                    have H' := Aside0.mk H
                    clear H
                    have hcz18_0 : wr.cell? ⟨gb101, 0, none⟩ = some (.int .i64 a0_0) := (blk_cell BK101.out 0).trans rfl
                    have hcz18_1 : wr.cell? ⟨gb101, 1, none⟩ = some (.string a0_1) := (blk_cell BK101.out 1).trans rfl
                    have hfz18_0 := blk_frozen BK101.out 0
                    have hfz18_1 := blk_frozen BK101.out 1
                    have p16 : 0 ≤ (x21_2 : Int) := of_decide_eq_true (by first | (with_reducible assumption) | assumption)
                    have q16 : x21_2 < (a0_1.size : Int) := of_decide_eq_true (by first | (with_reducible assumption) | assumption)
                    have hx16 := bt_at a0_1 x21_2
                    replace p16 := eq_true p16
                    replace q16 := eq_true q16
                    go_wp2
                    go_roundg k2
                    case measure => have := HJ1.out; have := HK2.out; omega
                    case rel => exact ⟨(wrap64 (x21_2 + 1)), (by first | rfl | (simp; done) | (simp [*]; done)), H', ⟨by have := HJ1.out; have := HK2.out; omega⟩, ⟨by (with_reducible repeat (first | refine blk_drewN ?_ _ | refine blk_drew ?_ | refine blk_alloc ?_ _)); exact BK101.out⟩, ⟨by repeat (first | (with_reducible first | exact HB.out | apply below_alloc | apply pw_below_drewN | apply below_drew1 | refine below_set ?_ GE101.out) | exact HB.out)⟩⟩
                  · rw [if_neg c17] at H
                    have c17b0 : ((bt a0_1 x21_2) == 48) = false := beq_eq_false_iff_ne.mpr c17
                    have c17b1 : ((bt a0_1 x21_2) != 48) = true := bne_iff_ne.mpr c17
                    by_cases c20 : (bt a0_1 x21_2) = 49
                    · rw [if_pos c20] at H
                      have c20b0 : ((bt a0_1 x21_2) == 49) = true := beq_iff_eq.mpr c20
                      have c20b1 : ((bt a0_1 x21_2) != 49) = false := bne_eq_false_iff_eq.mpr c20
                      clear c20
                      have H' := Aside0.mk H
                      clear H
                      have hcz21_0 : wr.cell? ⟨gb101, 0, none⟩ = some (.int .i64 a0_0) := (blk_cell BK101.out 0).trans rfl
                      have hcz21_1 : wr.cell? ⟨gb101, 1, none⟩ = some (.string a0_1) := (blk_cell BK101.out 1).trans rfl
                      have hfz21_0 := blk_frozen BK101.out 0
                      have hfz21_1 := blk_frozen BK101.out 1
                      have p16 : 0 ≤ (x21_2 : Int) := of_decide_eq_true (by first | (with_reducible assumption) | assumption)
                      have q16 : x21_2 < (a0_1.size : Int) := of_decide_eq_true (by first | (with_reducible assumption) | assumption)
                      have hx16 := bt_at a0_1 x21_2
                      replace p16 := eq_true p16
                      replace q16 := eq_true q16
                      have p19 : 0 ≤ (x21_2 : Int) := of_decide_eq_true (by first | (with_reducible assumption) | assumption)
                      have q19 : x21_2 < (a0_1.size : Int) := of_decide_eq_true (by first | (with_reducible assumption) | assumption)
                      have hx19 := bt_at a0_1 x21_2
                      replace p19 := eq_true p19
                      replace q19 := eq_true q19
                      go_wp2
                      go_roundg k2
                      case measure => have := HJ1.out; have := HK2.out; omega
                      case rel => exact ⟨(wrap64 (x21_2 + 1)), (by first | rfl | (simp; done) | (simp [*]; done)), H', ⟨by have := HJ1.out; have := HK2.out; omega⟩, ⟨by (with_reducible repeat (first | refine blk_drewN ?_ _ | refine blk_drew ?_ | refine blk_alloc ?_ _)); exact BK101.out⟩, ⟨by repeat (first | (with_reducible first | exact HB.out | apply below_alloc | apply pw_below_drewN | apply below_drew1 | refine below_set ?_ GE101.out) | exact HB.out)⟩⟩
                    · rw [if_neg c20] at H
                      have c20b0 : ((bt a0_1 x21_2) == 49) = false := beq_eq_false_iff_ne.mpr c20
                      have c20b1 : ((bt a0_1 x21_2) != 49) = true := bne_iff_ne.mpr c20
                      obtain rfl := Option.some.inj H
                      have hcz22_0 : wr.cell? ⟨gb101, 0, none⟩ = some (.int .i64 a0_0) := (blk_cell BK101.out 0).trans rfl
                      have hcz22_1 : wr.cell? ⟨gb101, 1, none⟩ = some (.string a0_1) := (blk_cell BK101.out 1).trans rfl
                      have hfz22_0 := blk_frozen BK101.out 0
                      have hfz22_1 := blk_frozen BK101.out 1
                      have p16 : 0 ≤ (x21_2 : Int) := of_decide_eq_true (by first | (with_reducible assumption) | assumption)
                      have q16 : x21_2 < (a0_1.size : Int) := of_decide_eq_true (by first | (with_reducible assumption) | assumption)
                      have hx16 := bt_at a0_1 x21_2
                      replace p16 := eq_true p16
                      replace q16 := eq_true q16
                      have p19 : 0 ≤ (x21_2 : Int) := of_decide_eq_true (by first | (with_reducible assumption) | assumption)
                      have q19 : x21_2 < (a0_1.size : Int) := of_decide_eq_true (by first | (with_reducible assumption) | assumption)
                      have hx19 := bt_at a0_1 x21_2
                      replace p19 := eq_true p19
                      replace q19 := eq_true q19
                      go_wp2
                      go_ret
                      exact ⟨by first | rfl | (simp [errW_none, errW_some] <;> rfl) | (simp [*, errW_none, errW_some] <;> rfl), by repeat (first | (with_reducible first | exact HB.out | apply below_alloc | apply pw_below_drewN | apply below_drew1 | refine below_set ?_ GE101.out) | exact HB.out)⟩
                · rw [if_neg c15] at H
                  exact absurd H (by simp)
              · rw [if_neg c14] at H
                exact absurd H (by simp)
            · rw [if_neg c13] at H
              have c13b0 : decide (x21_2 < (a0_1.size : Int)) = false := decide_eq_false c13
              clear c13
              obtain rfl := Option.some.inj H
              go_wp2
              go_ret
              exact ⟨by first | rfl | (simp [errW_none, errW_some] <;> rfl) | (simp [*, errW_none, errW_some] <;> rfl), by repeat (first | (with_reducible first | exact HB.out | apply below_alloc | apply pw_below_drewN | apply below_drew1 | refine below_set ?_ GE101.out) | exact HB.out)⟩
end Go.Proofs.Yteagogcpbcickaa.G
namespace Go.Proofs.Yteagogcpbcickaa.G
open Go.RowKit Go.Proofs.YteagogcpbcickaaW.PrintWords Go.Proofs.YteagogcpbcickaaW.PrintLast Go.Proofs.YteagogcpbcickaaW.PrintMore
attribute [local go_sem] max2_int min2_int max_two min_two max_three min_three max_four min_four   -- for this text's walks alone
set_option linter.unusedVariables false
set_option linter.unusedSimpArgs false
open Go.Proofs.Yteagogcpbcickaa.Mp Go.Proofs.Yteagogcpbcickaa.Fv
def impl_GraphOf.f (k : Nat) (a0_0 : Int) (a0_1 : ByteArray) : Option (Int × List S79 × Int) :=
  (impl_TableOk.f k a0_0 a0_1).bind fun t => if t = true then (if 0 ≤ a0_0 ∧ a0_0 ≤ 1000 then (wireF k a0_0 [] a0_0 a0_1 0).bind fun r => if r.2 < 0 then some (0, [], -1) else some (a0_0, r.1, r.2) else none) else some (0, [], -1)
set_option maxHeartbeats 8000000 in
set_option maxRecDepth 100000 in
theorem impl_GraphOf.calls (k : Nat) (a0_0 : Int) (a0_1 : ByteArray) (r1 : Int) (r2 : List S79) (r3 : Int) (w : World) (h : impl_GraphOf.f k a0_0 a0_1 = some (r1, r2, r3)) :
    Calls Try.prog 40 #[.agg #[.int .i64 a0_0, .string a0_1]] w fun e w' => ∃ v1_ : Value, e = .returned (.tuple #[.agg #[.int .i64 r1, v1_], .int .i64 r3]) ∧ Kd.R k79 79 w' w.heap.size (fun _ => True) v1_ r2 ∧ Below w.heap.size w w' := by
  unfold impl_GraphOf.f at h
  obtain ⟨t, ht, h⟩ := Option.bind_eq_some_iff.1 h
  have HOK := Aside0.mk ht
  clear ht
  cases t with
  | false =>
    rw [if_neg (by decide)] at h
    simp only [Option.some.injEq, Prod.mk.injEq] at h
    obtain ⟨rfl, rfl, rfl⟩ := h
    go_enter Try.func40, Try.ntmps40
    go_wp2_with (first | ((with_reducible refine gate_dst (N := 1) rfl ?_); refine box_event ?hg (N := 1) ?hd (cs := #[.int .i64 a0_0, .string a0_1]) (t := 36) ?hr ?_; (case hd => rfl); (case hg => rfl); (case hr => first | (go_simp; done) | (go_simp; rfl)); intro g1 hg w1 hbox hb; have BPa := Aside0.mk hbox; have HBa := Aside0.mk hb; have hcp0 : w1.cell? ⟨g1, 0, none⟩ = some (.int .i64 a0_0) := (blk_cell BPa.out 0).trans rfl; have hcp1 : w1.cell? ⟨g1, 1, none⟩ = some (.string a0_1) := (blk_cell BPa.out 1).trans rfl; clear hg hbox hb) | ((with_reducible refine gate_dst (N := 2) rfl ?_); refine box_event ?hg (N := 2) ?hd (cs := #[.int .i64 0, .slice none 0 0]) (t := 29) ?hr ?_; (case hd => rfl); (case hg => rfl); (case hr => first | (go_simp; done) | (go_simp; rfl)); intro g6 hg w2 hbox hb; have B6b := Aside0.mk hbox; have HBb := Aside0.mk (below_step HBa.out hb); have BPb := Aside0.mk (blk_below BPa.out hb); have G6 := Aside0.mk (show w.heap.size ≤ g6 by rw [hg]; exact HBa.out.size); clear hcp0 hcp1 BPa HBa; have hcp0 : w2.cell? ⟨g1, 0, none⟩ = some (.int .i64 a0_0) := (blk_cell BPb.out 0).trans rfl; have hcp1 : w2.cell? ⟨g1, 1, none⟩ = some (.string a0_1) := (blk_cell BPb.out 1).trans rfl; have hcr0 : w2.cell? ⟨g6, 0, none⟩ = some (.int .i64 0) := (blk_cell B6b.out 0).trans rfl; have hcr1 : w2.cell? ⟨g6, 1, none⟩ = some (.slice none 0 0) := (blk_cell B6b.out 1).trans rfl; have hfr0 := blk_frozen B6b.out 0; have hfr1 := blk_frozen B6b.out 1; clear hg hbox hb) | ((with_reducible refine gate_callee (f := 84) rfl ?_); (try (refine gate_guard (by rfl) ?_; dsimp only)); refine goesL_ (some 7) rfl rfl Try.func84 (by kernel_rfl) rfl #[.agg #[.int .i64 a0_0, .string a0_1]] rfl (by (try simp only [List.map_toArray, List.map_cons, List.map_nil]); first | done | rfl) ?_; (with_reducible refine (impl_TableOk.calls k a0_0 a0_1 false _ HOK.out).mono ?_); rintro e w3 ⟨rfl, hb⟩; refine ⟨_, rfl, ?_⟩; have HBc := Aside0.mk (below_step HBb.out hb); have BPc := Aside0.mk (blk_below BPb.out hb); have B6c := Aside0.mk (blk_below B6b.out hb); clear hcp0 hcp1 hcr0 hcr1 hfr0 hfr1; clear BPb B6b; have hcp0 : w3.cell? ⟨g1, 0, none⟩ = some (.int .i64 a0_0) := (blk_cell BPc.out 0).trans rfl; have hcp1 : w3.cell? ⟨g1, 1, none⟩ = some (.string a0_1) := (blk_cell BPc.out 1).trans rfl; have hcr0 : w3.cell? ⟨g6, 0, none⟩ = some (.int .i64 0) := (blk_cell B6c.out 0).trans rfl; have hcr1 : w3.cell? ⟨g6, 1, none⟩ = some (.slice none 0 0) := (blk_cell B6c.out 1).trans rfl; have hfr0 := blk_frozen B6c.out 0; have hfr1 := blk_frozen B6c.out 1; clear hb))
    have hB1 : Aside0 ((w3.setCell ⟨g6, 0, none⟩ (.int .i64 0)).heap[g6]? = some (.cells #[.int .i64 0, .slice none 0 0] 29 (0, 0))) := ⟨blk_put (cs := #[.int .i64 0, .slice none 0 0]) B6c.out 0 _ rfl⟩
    have hB2 : Aside0 (((w3.setCell ⟨g6, 0, none⟩ (.int .i64 0)).setCell ⟨g6, 1, none⟩ (.slice none 0 0)).heap[g6]? = some (.cells #[.int .i64 0, .slice none 0 0] 29 (0, 0))) := ⟨blk_put (cs := #[.int .i64 0, .slice none 0 0]) hB1.out 1 _ rfl⟩
    refine bodyPost_ret (results_ct rfl _ _ g6 29 #[.int .i64 0, .slice none 0 0] (0, 0) _ rfl hB2.out Try.underlying29 rfl (by kernel_rfl)) rfl ?_
    exact ⟨.slice none 0 0, rfl, Kd.R_nil _ _ _ _ _, below_set (below_set HBc.out G6.out) G6.out⟩
  | true =>
  rw [if_pos rfl] at h
  by_cases c1 : 0 ≤ a0_0 ∧ a0_0 ≤ 1000
  case neg => rw [if_neg c1] at h; cases h
  rw [if_pos c1] at h
  have HN := Aside0.mk c1
  clear c1
  obtain ⟨⟨F1, F2⟩, hw, h⟩ := Option.bind_eq_some_iff.1 h
  have HW := Aside0.mk hw
  clear hw
  dsimp only at h
  by_cases c3 : F2 < 0
  · rw [if_pos c3] at h
    simp only [Option.some.injEq, Prod.mk.injEq] at h
    obtain ⟨rfl, rfl, rfl⟩ := h
    have d3 : decide (F2 < 0) = true := decide_eq_true c3
    clear c3
    go_enter Try.func40, Try.ntmps40
    go_wp2_with (first | ((with_reducible refine gate_dst (N := 1) rfl ?_); refine box_event ?hg (N := 1) ?hd (cs := #[.int .i64 a0_0, .string a0_1]) (t := 36) ?hr ?_; (case hd => rfl); (case hg => rfl); (case hr => first | (go_simp; done) | (go_simp; rfl)); intro g1 hg w1 hbox hb; have BPa := Aside0.mk hbox; have HBa := Aside0.mk hb; have hcp0 : w1.cell? ⟨g1, 0, none⟩ = some (.int .i64 a0_0) := (blk_cell BPa.out 0).trans rfl; have hcp1 : w1.cell? ⟨g1, 1, none⟩ = some (.string a0_1) := (blk_cell BPa.out 1).trans rfl; clear hg hbox hb) | ((with_reducible refine gate_dst (N := 2) rfl ?_); refine box_event ?hg (N := 2) ?hd (cs := #[.int .i64 0, .slice none 0 0]) (t := 29) ?hr ?_; (case hd => rfl); (case hg => rfl); (case hr => first | (go_simp; done) | (go_simp; rfl)); intro g6 hg w2 hbox hb; have B6b := Aside0.mk hbox; have HBb := Aside0.mk (below_step HBa.out hb); have BPb := Aside0.mk (blk_below BPa.out hb); have G6 := Aside0.mk (show w.heap.size ≤ g6 by rw [hg]; exact HBa.out.size); clear hcp0 hcp1 BPa HBa; have hcp0 : w2.cell? ⟨g1, 0, none⟩ = some (.int .i64 a0_0) := (blk_cell BPb.out 0).trans rfl; have hcp1 : w2.cell? ⟨g1, 1, none⟩ = some (.string a0_1) := (blk_cell BPb.out 1).trans rfl; have hcr0 : w2.cell? ⟨g6, 0, none⟩ = some (.int .i64 0) := (blk_cell B6b.out 0).trans rfl; have hcr1 : w2.cell? ⟨g6, 1, none⟩ = some (.slice none 0 0) := (blk_cell B6b.out 1).trans rfl; have hfr0 := blk_frozen B6b.out 0; have hfr1 := blk_frozen B6b.out 1; clear hg hbox hb) | ((with_reducible refine gate_callee (f := 84) rfl ?_); (try (refine gate_guard (by rfl) ?_; dsimp only)); refine goesL_ (some 7) rfl rfl Try.func84 (by kernel_rfl) rfl #[.agg #[.int .i64 a0_0, .string a0_1]] rfl (by (try simp only [List.map_toArray, List.map_cons, List.map_nil]); first | done | rfl) ?_; (with_reducible refine (impl_TableOk.calls k a0_0 a0_1 true _ HOK.out).mono ?_); rintro e w3 ⟨rfl, hb⟩; refine ⟨_, rfl, ?_⟩; have HBc := Aside0.mk (below_step HBb.out hb); have BPc := Aside0.mk (blk_below BPb.out hb); have B6c := Aside0.mk (blk_below B6b.out hb); clear hcp0 hcp1 hcr0 hcr1 hfr0 hfr1; clear BPb B6b; have hcp0 : w3.cell? ⟨g1, 0, none⟩ = some (.int .i64 a0_0) := (blk_cell BPc.out 0).trans rfl; have hcp1 : w3.cell? ⟨g1, 1, none⟩ = some (.string a0_1) := (blk_cell BPc.out 1).trans rfl; have hcr0 : w3.cell? ⟨g6, 0, none⟩ = some (.int .i64 0) := (blk_cell B6c.out 0).trans rfl; have hcr1 : w3.cell? ⟨g6, 1, none⟩ = some (.slice none 0 0) := (blk_cell B6c.out 1).trans rfl; have hfr0 := blk_frozen B6c.out 0; have hfr1 := blk_frozen B6c.out 1; clear hb) | ((with_reducible refine gate_callee (f := 85) rfl ?_); (try (refine gate_guard (by rfl) ?_; dsimp only)); refine goesL_ (some 13) rfl rfl Try.func85 (by kernel_rfl) rfl #[.agg #[.int .i64 a0_0, .slice none 0 0]] rfl (by (try simp only [List.map_toArray, List.map_cons, List.map_nil]); first | done | rfl) ?_; (with_reducible refine (newBuilder0.calls a0_0 _ HN.out).mono ?_); rintro e w4 ⟨g, rfl, hI, hb⟩; refine ⟨_, rfl, ?_⟩; have HBd := Aside0.mk (below_step HBc.out hb); have HI := Aside0.mk hI; have HJ := Aside0.mk hb; have GN := Aside0.mk (hI.ne (blk_lt BPc.out)); have GN6 := Aside0.mk (hI.ne (blk_lt B6c.out)); have BPd := Aside0.mk (blk_below BPc.out hb); have B6d := Aside0.mk (blk_below B6c.out hb); clear hcp0 hcp1 hcr0 hcr1 hfr0 hfr1; clear BPc B6c; have hcp0 : w4.cell? ⟨g1, 0, none⟩ = some (.int .i64 a0_0) := (blk_cell BPd.out 0).trans rfl; have hcp1 : w4.cell? ⟨g1, 1, none⟩ = some (.string a0_1) := (blk_cell BPd.out 1).trans rfl; have hcr0 : w4.cell? ⟨g6, 0, none⟩ = some (.int .i64 0) := (blk_cell B6d.out 0).trans rfl; have hcr1 : w4.cell? ⟨g6, 1, none⟩ = some (.slice none 0 0) := (blk_cell B6d.out 1).trans rfl; have hfr0 := blk_frozen B6d.out 0; have hfr1 := blk_frozen B6d.out 1; clear hb hI) | ((with_reducible refine gate_callee (f := 86) rfl ?_); (try (refine gate_guard (by rfl) ?_; dsimp only)); refine goesL_ (some 16) rfl rfl Try.func86 (by kernel_rfl) rfl #[.pointer (some ⟨g, 0, none⟩), .agg #[.int .i64 a0_0, .string a0_1], .int .i64 0] rfl (by (try simp only [List.map_toArray, List.map_cons, List.map_nil]); first | done | rfl) ?_; (with_reducible refine (builder_wire.calls g k w3 a0_0 ([] : List S79) a0_0 a0_1 0 (F1, F2) _ HI.out HJ.out HN.out (by simp) HW.out).mono ?_); rintro e w9 ⟨rfl, hI9, hB9, hF9⟩; refine ⟨_, rfl, ?_⟩; obtain ⟨A9, c9, mb, hI9⟩ := hI9; have BG9 := Aside0.mk hI9.blk; have HR9 := Aside0.mk (Kd.R_lower hI9.row HBc.out.size); have HBh := Aside0.mk (below_step HBc.out hB9); have BPh := Aside0.mk (hF9 g1 _ 36 GN.out (by decide) BPd.out); have B6h := Aside0.mk (hF9 g6 _ 29 GN6.out (by decide) B6d.out); clear hI9 hB9 hF9; clear hcp0 hcp1 hcr0 hcr1 hfr0 hfr1; have hcp0 : w9.cell? ⟨g1, 0, none⟩ = some (.int .i64 a0_0) := (blk_cell BPh.out 0).trans rfl; have hcp1 : w9.cell? ⟨g1, 1, none⟩ = some (.string a0_1) := (blk_cell BPh.out 1).trans rfl; have hcr0 : w9.cell? ⟨g6, 0, none⟩ = some (.int .i64 0) := (blk_cell B6h.out 0).trans rfl; have hcr1 : w9.cell? ⟨g6, 1, none⟩ = some (.slice none 0 0) := (blk_cell B6h.out 1).trans rfl; have hfr0 := blk_frozen B6h.out 0; have hfr1 := blk_frozen B6h.out 1; have hcg0 : w9.cell? ⟨g, 0, none⟩ = some (.int .i64 a0_0) := (blk_cell BG9.out 0).trans rfl; have hcg1 : w9.cell? ⟨g, 1, none⟩ = some (.slice A9 F1.length c9) := (blk_cell BG9.out 1).trans rfl))
    have hB1 : Aside0 ((w9.setCell ⟨g6, 0, none⟩ (.int .i64 0)).heap[g6]? = some (.cells #[.int .i64 0, .slice none 0 0] 29 (0, 0))) := ⟨blk_put (cs := #[.int .i64 0, .slice none 0 0]) B6h.out 0 _ rfl⟩
    have hB2 : Aside0 (((w9.setCell ⟨g6, 0, none⟩ (.int .i64 0)).setCell ⟨g6, 1, none⟩ (.slice none 0 0)).heap[g6]? = some (.cells #[.int .i64 0, .slice none 0 0] 29 (0, 0))) := ⟨blk_put (cs := #[.int .i64 0, .slice none 0 0]) hB1.out 1 _ rfl⟩
    refine bodyPost_ret (results_ct rfl _ _ g6 29 #[.int .i64 0, .slice none 0 0] (0, 0) _ rfl hB2.out Try.underlying29 rfl (by kernel_rfl)) rfl ?_
    exact ⟨.slice none 0 0, rfl, Kd.R_nil _ _ _ _ _, below_set (below_set HBh.out G6.out) G6.out⟩
  · rw [if_neg c3] at h
    simp only [Option.some.injEq, Prod.mk.injEq] at h
    obtain ⟨rfl, rfl, rfl⟩ := h
    have d3 : decide (F2 < 0) = false := decide_eq_false c3
    clear c3
    go_enter Try.func40, Try.ntmps40
    go_wp2_with (first | ((with_reducible refine gate_dst (N := 1) rfl ?_); refine box_event ?hg (N := 1) ?hd (cs := #[.int .i64 a0_0, .string a0_1]) (t := 36) ?hr ?_; (case hd => rfl); (case hg => rfl); (case hr => first | (go_simp; done) | (go_simp; rfl)); intro g1 hg w1 hbox hb; have BPa := Aside0.mk hbox; have HBa := Aside0.mk hb; have hcp0 : w1.cell? ⟨g1, 0, none⟩ = some (.int .i64 a0_0) := (blk_cell BPa.out 0).trans rfl; have hcp1 : w1.cell? ⟨g1, 1, none⟩ = some (.string a0_1) := (blk_cell BPa.out 1).trans rfl; clear hg hbox hb) | ((with_reducible refine gate_dst (N := 2) rfl ?_); refine box_event ?hg (N := 2) ?hd (cs := #[.int .i64 0, .slice none 0 0]) (t := 29) ?hr ?_; (case hd => rfl); (case hg => rfl); (case hr => first | (go_simp; done) | (go_simp; rfl)); intro g6 hg w2 hbox hb; have B6b := Aside0.mk hbox; have HBb := Aside0.mk (below_step HBa.out hb); have BPb := Aside0.mk (blk_below BPa.out hb); have G6 := Aside0.mk (show w.heap.size ≤ g6 by rw [hg]; exact HBa.out.size); clear hcp0 hcp1 BPa HBa; have hcp0 : w2.cell? ⟨g1, 0, none⟩ = some (.int .i64 a0_0) := (blk_cell BPb.out 0).trans rfl; have hcp1 : w2.cell? ⟨g1, 1, none⟩ = some (.string a0_1) := (blk_cell BPb.out 1).trans rfl; have hcr0 : w2.cell? ⟨g6, 0, none⟩ = some (.int .i64 0) := (blk_cell B6b.out 0).trans rfl; have hcr1 : w2.cell? ⟨g6, 1, none⟩ = some (.slice none 0 0) := (blk_cell B6b.out 1).trans rfl; have hfr0 := blk_frozen B6b.out 0; have hfr1 := blk_frozen B6b.out 1; clear hg hbox hb) | ((with_reducible refine gate_callee (f := 84) rfl ?_); (try (refine gate_guard (by rfl) ?_; dsimp only)); refine goesL_ (some 7) rfl rfl Try.func84 (by kernel_rfl) rfl #[.agg #[.int .i64 a0_0, .string a0_1]] rfl (by (try simp only [List.map_toArray, List.map_cons, List.map_nil]); first | done | rfl) ?_; (with_reducible refine (impl_TableOk.calls k a0_0 a0_1 true _ HOK.out).mono ?_); rintro e w3 ⟨rfl, hb⟩; refine ⟨_, rfl, ?_⟩; have HBc := Aside0.mk (below_step HBb.out hb); have BPc := Aside0.mk (blk_below BPb.out hb); have B6c := Aside0.mk (blk_below B6b.out hb); clear hcp0 hcp1 hcr0 hcr1 hfr0 hfr1; clear BPb B6b; have hcp0 : w3.cell? ⟨g1, 0, none⟩ = some (.int .i64 a0_0) := (blk_cell BPc.out 0).trans rfl; have hcp1 : w3.cell? ⟨g1, 1, none⟩ = some (.string a0_1) := (blk_cell BPc.out 1).trans rfl; have hcr0 : w3.cell? ⟨g6, 0, none⟩ = some (.int .i64 0) := (blk_cell B6c.out 0).trans rfl; have hcr1 : w3.cell? ⟨g6, 1, none⟩ = some (.slice none 0 0) := (blk_cell B6c.out 1).trans rfl; have hfr0 := blk_frozen B6c.out 0; have hfr1 := blk_frozen B6c.out 1; clear hb) | ((with_reducible refine gate_callee (f := 85) rfl ?_); (try (refine gate_guard (by rfl) ?_; dsimp only)); refine goesL_ (some 13) rfl rfl Try.func85 (by kernel_rfl) rfl #[.agg #[.int .i64 a0_0, .slice none 0 0]] rfl (by (try simp only [List.map_toArray, List.map_cons, List.map_nil]); first | done | rfl) ?_; (with_reducible refine (newBuilder0.calls a0_0 _ HN.out).mono ?_); rintro e w4 ⟨g, rfl, hI, hb⟩; refine ⟨_, rfl, ?_⟩; have HBd := Aside0.mk (below_step HBc.out hb); have HI := Aside0.mk hI; have HJ := Aside0.mk hb; have GN := Aside0.mk (hI.ne (blk_lt BPc.out)); have GN6 := Aside0.mk (hI.ne (blk_lt B6c.out)); have BPd := Aside0.mk (blk_below BPc.out hb); have B6d := Aside0.mk (blk_below B6c.out hb); clear hcp0 hcp1 hcr0 hcr1 hfr0 hfr1; clear BPc B6c; have hcp0 : w4.cell? ⟨g1, 0, none⟩ = some (.int .i64 a0_0) := (blk_cell BPd.out 0).trans rfl; have hcp1 : w4.cell? ⟨g1, 1, none⟩ = some (.string a0_1) := (blk_cell BPd.out 1).trans rfl; have hcr0 : w4.cell? ⟨g6, 0, none⟩ = some (.int .i64 0) := (blk_cell B6d.out 0).trans rfl; have hcr1 : w4.cell? ⟨g6, 1, none⟩ = some (.slice none 0 0) := (blk_cell B6d.out 1).trans rfl; have hfr0 := blk_frozen B6d.out 0; have hfr1 := blk_frozen B6d.out 1; clear hb hI) | ((with_reducible refine gate_callee (f := 86) rfl ?_); (try (refine gate_guard (by rfl) ?_; dsimp only)); refine goesL_ (some 16) rfl rfl Try.func86 (by kernel_rfl) rfl #[.pointer (some ⟨g, 0, none⟩), .agg #[.int .i64 a0_0, .string a0_1], .int .i64 0] rfl (by (try simp only [List.map_toArray, List.map_cons, List.map_nil]); first | done | rfl) ?_; (with_reducible refine (builder_wire.calls g k w3 a0_0 ([] : List S79) a0_0 a0_1 0 (F1, F2) _ HI.out HJ.out HN.out (by simp) HW.out).mono ?_); rintro e w9 ⟨rfl, hI9, hB9, hF9⟩; refine ⟨_, rfl, ?_⟩; obtain ⟨A9, c9, mb, hI9⟩ := hI9; have BG9 := Aside0.mk hI9.blk; have HR9 := Aside0.mk (Kd.R_lower hI9.row HBc.out.size); have HBh := Aside0.mk (below_step HBc.out hB9); have BPh := Aside0.mk (hF9 g1 _ 36 GN.out (by decide) BPd.out); have B6h := Aside0.mk (hF9 g6 _ 29 GN6.out (by decide) B6d.out); clear hI9 hB9 hF9; clear hcp0 hcp1 hcr0 hcr1 hfr0 hfr1; have hcp0 : w9.cell? ⟨g1, 0, none⟩ = some (.int .i64 a0_0) := (blk_cell BPh.out 0).trans rfl; have hcp1 : w9.cell? ⟨g1, 1, none⟩ = some (.string a0_1) := (blk_cell BPh.out 1).trans rfl; have hcr0 : w9.cell? ⟨g6, 0, none⟩ = some (.int .i64 0) := (blk_cell B6h.out 0).trans rfl; have hcr1 : w9.cell? ⟨g6, 1, none⟩ = some (.slice none 0 0) := (blk_cell B6h.out 1).trans rfl; have hfr0 := blk_frozen B6h.out 0; have hfr1 := blk_frozen B6h.out 1; have hcg0 : w9.cell? ⟨g, 0, none⟩ = some (.int .i64 a0_0) := (blk_cell BG9.out 0).trans rfl; have hcg1 : w9.cell? ⟨g, 1, none⟩ = some (.slice A9 F1.length c9) := (blk_cell BG9.out 1).trans rfl))
    have hB1 : Aside0 ((w9.setCell ⟨g6, 0, none⟩ (.int .i64 a0_0)).heap[g6]? = some (.cells #[.int .i64 a0_0, .slice none 0 0] 29 (0, 0))) := ⟨blk_put (cs := #[.int .i64 0, .slice none 0 0]) B6h.out 0 _ rfl⟩
    have hB2 : Aside0 (((w9.setCell ⟨g6, 0, none⟩ (.int .i64 a0_0)).setCell ⟨g6, 1, none⟩ (.slice A9 F1.length c9)).heap[g6]? = some (.cells #[.int .i64 a0_0, .slice A9 F1.length c9] 29 (0, 0))) := ⟨blk_put (cs := #[.int .i64 a0_0, .slice none 0 0]) hB1.out 1 _ rfl⟩
    refine bodyPost_ret (results_ct rfl _ _ g6 29 #[.int .i64 a0_0, .slice A9 F1.length c9] (0, 0) _ rfl hB2.out Try.underlying29 rfl (by kernel_rfl)) rfl ?_
    exact ⟨.slice A9 F1.length c9, rfl, Kd.R_set (Kd.R_set HR9.out B6h.out (by decide) 0 _) hB1.out (by decide) 1 _, below_set (below_set HBh.out G6.out) G6.out⟩
end Go.Proofs.Yteagogcpbcickaa.G
namespace Go.Proofs.Yteagogcpbcickaa.G
open Go.Proofs.Yteagogcpbcickaa.Sh Go.RowKit Go.Proofs.YteagogcpbcickaaW.PrintWords Go.Proofs.YteagogcpbcickaaW.PrintLast Go.Proofs.YteagogcpbcickaaW.PrintMore
attribute [local go_sem] max2_int min2_int max_two min_two max_three min_three max_four min_four   -- for this text's walks alone
set_option linter.unusedVariables false
set_option linter.unusedSimpArgs false
mutual
def impl_GraphSize.j0 : Nat → Int → Bool → Int → List (S79) → Option (Int)
  | 0, _, _, _, _ => none
  | k + 1, x1, x17, x102000, x102001 => if x17 = true then (some (-1)) else ((impl_Graph_wires.f x102000 x102001).bind fun t104 => (if 0 ≤ (wrap64 (Int.tdiv t104 2)) then (if (wrap64 (Int.tdiv t104 2) : Int).toNat ≤ 281474976710656 then ((some (List.replicate (wrap64 (Int.tdiv t104 2) : Int).toNat false : List Bool)).bind fun y105 => (if 0 ≤ (wrap64 (Int.tdiv x1 2)) then (if (wrap64 (Int.tdiv x1 2)) < (y105.length : Int) then (impl_GraphSize.l0 k (y105.set ((wrap64 (Int.tdiv x1 2)) : Int).toNat true) 0 (wrap64 ((y105.length : Int) - 1)) x102000 x102001) else (none)) else (none))) else (none)) else (none)))
def impl_GraphSize.l0 : Nat → List Bool → Int → Int → Int → List (S79) → Option (Int)
  | 0, _, _, _, _, _ => none
  | k + 1, x5, x6, x7, x102000, x102001 => if x7 > x102000 then (if 0 ≤ x7 then (if x7 < (x5.length : Int) then (if rdOf false x5 x7 = true then (if 0 ≤ (wrap64 ((wrap64 (x7 - x102000)) - 1)) then (if (wrap64 ((wrap64 (x7 - x102000)) - 1)) < (x102001.length : Int) then (if 0 ≤ (wrap64 (Int.tdiv ((rd_T79 x102001 (wrap64 ((wrap64 (x7 - x102000)) - 1))).f0) 2)) then (if (wrap64 (Int.tdiv ((rd_T79 x102001 (wrap64 ((wrap64 (x7 - x102000)) - 1))).f0) 2)) < (x5.length : Int) then (if 0 ≤ (wrap64 (Int.tdiv ((rd_T79 x102001 (wrap64 ((wrap64 (x7 - x102000)) - 1))).f1) 2)) then (if (wrap64 (Int.tdiv ((rd_T79 x102001 (wrap64 ((wrap64 (x7 - x102000)) - 1))).f1) 2)) < (x5.length : Int) then (impl_GraphSize.l0 k ((x5.set ((wrap64 (Int.tdiv ((rd_T79 x102001 (wrap64 ((wrap64 (x7 - x102000)) - 1))).f0) 2)) : Int).toNat true).set ((wrap64 (Int.tdiv ((rd_T79 x102001 (wrap64 ((wrap64 (x7 - x102000)) - 1))).f1) 2)) : Int).toNat true) (wrap64 (x6 + 1)) (wrap64 (x7 - 1)) x102000 x102001) else (none)) else (none)) else (none)) else (none)) else (none)) else (none)) else (impl_GraphSize.l0 k x5 x6 (wrap64 (x7 - 1)) x102000 x102001)) else (none)) else (none)) else (some x6)
end
def impl_GraphSize.f (k : Nat) (a0_0 : Int) (l0_1 : List (S79)) (a1 : Int) : Option (Int) := (impl_GraphOk.f a0_0 l0_1).bind fun t102 => (if t102 = true then ((impl_Graph_isWire.f a0_0 l0_1 a1).bind fun t103 => (impl_GraphSize.j0 k a1 (!t103) a0_0 l0_1)) else (impl_GraphSize.j0 k a1 true a0_0 l0_1))
set_option maxHeartbeats 80000000 in
set_option maxRecDepth 100000 in
theorem impl_GraphSize.calls (k : Nat) (a0_0 : Int) (A0_1 : Option Addr) (c0_1 : Nat) (l0_1 : List (S79)) (a1 : Int) (r : Int) (w : World) (hr0_1 : Kd.C k79 w A0_1 l0_1.length l0_1) (hc0_1 : l0_1.length ≤ c0_1) (h : impl_GraphSize.f k a0_0 l0_1 a1 = some r) :
  Calls Try.prog 21 #[.agg #[.int .i64 a0_0, .slice A0_1 l0_1.length c0_1], .int .i64 a1] w fun e w' => e = .returned (.int .i64 r) ∧ Below w.heap.size w w' := by
 have hu29 := Try.underlying29; have hu79 := Try.underlying79; have HR0_1 := Aside0.mk hr0_1; have HC0_1 := Aside0.mk hc0_1; clear hr0_1 hc0_1; have HB := Aside0.mk (Below.refl w.heap.size w)
 have H : ((impl_GraphOk.f a0_0 l0_1).bind fun t102 => (if t102 = true then ((impl_Graph_isWire.f a0_0 l0_1 a1).bind fun t103 => (impl_GraphSize.j0 k a1 (!t103) a0_0 l0_1)) else (impl_GraphSize.j0 k a1 true a0_0 l0_1))) = some r := h
 clear h; have HC3 := Aside0.mk H; clear H
 go_enter Try.func21, Try.ntmps21
 go_upto_region 1 with (first | ((with_reducible refine gate_dst (N := 2) rfl ?_); refine box_event ?hg (N := 2) ?hd (cs := #[.int .i64 a0_0, .slice A0_1 l0_1.length c0_1]) (t := 29) ?hr ?_; (case hd => rfl); (case hg => rfl); (case hr => first | (go_simp; done) | (go_simp; rfl)); intro gb101 hg w4 hbox hb; have n0_ := bs0 HB hb; have n1_ := Aside0.mk (hbox); have n2_ := bz0 hg HB; have n3_ := bz0 hg HB; clear HB; have HB := n0_; have BK101 := n1_; have GW101 := n2_; have GE101 := n3_; clear n0_ n1_ n2_ n3_; clear hb hbox hg))
 (try simp only [Act.put, List.setIfInBounds_toArray, List.set_cons_zero, List.set_cons_succ])
 go_cut [17] (fun v17 wc => ∃ (kq : Nat) (x17_2 : Bool), v17 = .bool x17_2 ∧ Aside0 (impl_GraphSize.j0 kq a1 x17_2 a0_0 l0_1 = some r) ∧ Aside0 (kq ≤ k) ∧ Aside0 (wc.heap[gb101]? = some (.cells #[.int .i64 a0_0, (.slice A0_1 l0_1.length c0_1)] 29 (0, 0))) ∧ Aside0 (Below w.heap.size w wc))
 case first =>
  have H := HC3.out; clear HC3
  replace H := Option.bind_eq_some_iff.mp H
  obtain ⟨t102, A50, H⟩ := H
  replace H : (if t102 = true then ((impl_Graph_isWire.f a0_0 l0_1 a1).bind fun t103 => (impl_GraphSize.j0 k a1 (!t103) a0_0 l0_1)) else (impl_GraphSize.j0 k a1 true a0_0 l0_1)) = some r := H
  have A5 := Aside0.mk A50; clear A50
  by_cases c6 : t102 = true
  ·subst c6
   have H1 : ((impl_Graph_isWire.f a0_0 l0_1 a1).bind fun t103 => (impl_GraphSize.j0 k a1 (!t103) a0_0 l0_1)) = some r := by rw [if_pos rfl] at H; exact H
   clear H; have H := H1; clear H1
   replace H := Option.bind_eq_some_iff.mp H
   obtain ⟨t103, A70, H⟩ := H
   replace H : (impl_GraphSize.j0 k a1 (!t103) a0_0 l0_1) = some r := H
   have A7 := Aside0.mk A70; clear A70
   have H' := Aside0.mk H
   clear H; have hcz8_0 : w4.cell? ⟨gb101, 0, none⟩ = some (.int .i64 a0_0) := (blk_cell BK101.out 0).trans rfl; have hcz8_1 : w4.cell? ⟨gb101, 1, none⟩ = some (.slice A0_1 l0_1.length c0_1) := (blk_cell BK101.out 1).trans rfl; have hfz8_0 := blk_frozen BK101.out 0; have hfz8_1 := blk_frozen BK101.out 1
   go_wp2_with (first | ((with_reducible refine gate_callee (f := 18) rfl ?_); refine goesL_ (some 10) rfl rfl Try.func18 (by kernel_rfl) rfl #[.agg #[.int .i64 a0_0, .slice A0_1 l0_1.length c0_1]] rfl (by (try simp only [List.map_toArray, List.map_cons, List.map_nil]); first | done | rfl | (simp only [List.length_drop, List.length_take]; rfl)) ?_; (with_reducible refine (impl_GraphOk.calls a0_0 _ _ l0_1 true _ ?side1 ?side2 A5.out).mono ?_); (case side1 => repeat (first | exact (Kd.C_below HR0_1.out HB.out) | (with_reducible refine Kd.C_alloc ?_ _) | (with_reducible refine Kd.C_drewN ?_ _) | (with_reducible refine Kd.C_drew ?_))); (case side2 => exact HC0_1.out); rintro e w9 ⟨rfl, hb⟩; refine ⟨_, rfl, ?_⟩; have n0_ := bb BK101 hb; have n1_ := bs1 HB hb GE101; clear BK101; clear HB; have BK101 := n0_; have HB := n1_; clear n0_ n1_; (try clear hb); (try clear hb2); (try clear hk); (try clear hi); have hcz10_0 : w9.cell? ⟨gb101, 0, none⟩ = some (.int .i64 a0_0) := (blk_cell BK101.out 0).trans rfl; have hcz10_1 : w9.cell? ⟨gb101, 1, none⟩ = some (.slice A0_1 l0_1.length c0_1) := (blk_cell BK101.out 1).trans rfl; have hfz10_0 := blk_frozen BK101.out 0; have hfz10_1 := blk_frozen BK101.out 1) | (go_at_call 63; (try simp only [i64_w, i32_w]); (with_reducible refine (impl_Graph_isWire.calls a0_0 _ _ l0_1 a1 t103 _ ?side1 ?side2 A7.out).mono ?_); (case side1 => repeat (first | exact (Kd.C_below HR0_1.out HB.out) | (with_reducible refine Kd.C_alloc ?_ _) | (with_reducible refine Kd.C_drewN ?_ _) | (with_reducible refine Kd.C_drew ?_))); (case side2 => exact HC0_1.out); rintro e w11 ⟨rfl, hb⟩; have n0_ := bb BK101 hb; have n1_ := bs1 HB hb GE101; clear BK101; clear HB; have BK101 := n0_; have HB := n1_; clear n0_ n1_; (try clear hb); (try clear hb2); (try clear hk); (try clear hi)))
   go_meet
   case rel => exact ⟨_, (!t103), (by first | rfl | (simp; done) | (simp [*]; done)), H', ⟨by first | omega | exact Nat.le_refl _⟩, ⟨by (with_reducible repeat (first | refine blk_drewN ?_ _ | refine blk_drew ?_ | refine blk_alloc ?_ _)); exact BK101.out⟩, ⟨by repeat (first | (with_reducible first | exact HB.out | apply below_alloc | apply pw_below_drewN | apply below_drew1 | refine below_set ?_ GE101.out) | exact HB.out)⟩⟩
  ·replace c6 := Bool.eq_false_iff.mpr c6
   subst c6
   have H1 : (impl_GraphSize.j0 k a1 true a0_0 l0_1) = some r := by rw [if_neg (show ¬ (false = true) by decide)] at H; exact H
   clear H; have H := H1; clear H1
   have H' := Aside0.mk H
   clear H; have hcz12_0 : w4.cell? ⟨gb101, 0, none⟩ = some (.int .i64 a0_0) := (blk_cell BK101.out 0).trans rfl; have hcz12_1 : w4.cell? ⟨gb101, 1, none⟩ = some (.slice A0_1 l0_1.length c0_1) := (blk_cell BK101.out 1).trans rfl; have hfz12_0 := blk_frozen BK101.out 0; have hfz12_1 := blk_frozen BK101.out 1
   go_wp2_with (first | ((with_reducible refine gate_callee (f := 18) rfl ?_); refine goesL_ (some 10) rfl rfl Try.func18 (by kernel_rfl) rfl #[.agg #[.int .i64 a0_0, .slice A0_1 l0_1.length c0_1]] rfl (by (try simp only [List.map_toArray, List.map_cons, List.map_nil]); first | done | rfl | (simp only [List.length_drop, List.length_take]; rfl)) ?_; (with_reducible refine (impl_GraphOk.calls a0_0 _ _ l0_1 false _ ?side1 ?side2 A5.out).mono ?_); (case side1 => repeat (first | exact (Kd.C_below HR0_1.out HB.out) | (with_reducible refine Kd.C_alloc ?_ _) | (with_reducible refine Kd.C_drewN ?_ _) | (with_reducible refine Kd.C_drew ?_))); (case side2 => exact HC0_1.out); rintro e w13 ⟨rfl, hb⟩; refine ⟨_, rfl, ?_⟩; have n0_ := bb BK101 hb; have n1_ := bs1 HB hb GE101; clear BK101; clear HB; have BK101 := n0_; have HB := n1_; clear n0_ n1_; (try clear hb); (try clear hb2); (try clear hk); (try clear hi)))
   go_meet
   case rel => exact ⟨_, (true), (by first | rfl | (simp; done) | (simp [*]; done)), H', ⟨by first | omega | exact Nat.le_refl _⟩, ⟨by (with_reducible repeat (first | refine blk_drewN ?_ _ | refine blk_drew ?_ | refine blk_alloc ?_ _)); exact BK101.out⟩, ⟨by repeat (first | (with_reducible first | exact HB.out | apply below_alloc | apply pw_below_drewN | apply below_drew1 | refine below_set ?_ GE101.out) | exact HB.out)⟩⟩
 case rest =>
  clear HC3
  (try clear c1); (try clear c2); (try clear p2); (try clear c6); (try clear hcz10_0); (try clear hcz10_1); (try clear hcz12_0); (try clear hcz12_1); (try clear hcz8_0); (try clear hcz8_1); (try clear hfz10_0); (try clear hfz10_1); (try clear hfz12_0); (try clear hfz12_1); (try clear hfz8_0); (try clear hfz8_1)
  obtain ⟨kq, x17_2, rfl, HA, HJ2, BK101, HB⟩ := hcut
  cases kq with
    | zero => exact absurd HA.out (by simp [impl_GraphSize.j0])
    | succ kj2 =>
   have H := HA.out; clear HA
   simp only [impl_GraphSize.j0] at H
   by_cases c14 : x17_2 = true
   ·subst c14
    have H1 : (some (-1)) = some r := by rw [if_pos rfl] at H; exact H
    clear H; have H := H1; clear H1
    obtain rfl := Option.some.inj H
    go_wp2
    go_ret
    exact ⟨by first | rfl | (simp [errW_none, errW_some] <;> rfl) | (simp [*, errW_none, errW_some] <;> rfl), by repeat (first | (with_reducible first | exact HB.out | apply below_alloc | apply pw_below_drewN | apply below_drew1 | refine below_set ?_ GE101.out) | exact HB.out)⟩
   ·replace c14 := Bool.eq_false_iff.mpr c14
    subst c14
    have H1 : ((impl_Graph_wires.f a0_0 l0_1).bind fun t104 => (if 0 ≤ (wrap64 (Int.tdiv t104 2)) then (if (wrap64 (Int.tdiv t104 2) : Int).toNat ≤ 281474976710656 then ((some (List.replicate (wrap64 (Int.tdiv t104 2) : Int).toNat false : List Bool)).bind fun y105 => (if 0 ≤ (wrap64 (Int.tdiv a1 2)) then (if (wrap64 (Int.tdiv a1 2)) < (y105.length : Int) then (impl_GraphSize.l0 kj2 (y105.set ((wrap64 (Int.tdiv a1 2)) : Int).toNat true) 0 (wrap64 ((y105.length : Int) - 1)) a0_0 l0_1) else (none)) else (none))) else (none)) else (none))) = some r := by rw [if_neg (show ¬ (false = true) by decide)] at H; exact H
    clear H; have H := H1; clear H1
    replace H := Option.bind_eq_some_iff.mp H
    obtain ⟨t104, A150, H⟩ := H
    replace H : (if 0 ≤ (wrap64 (Int.tdiv t104 2)) then (if (wrap64 (Int.tdiv t104 2) : Int).toNat ≤ 281474976710656 then ((some (List.replicate (wrap64 (Int.tdiv t104 2) : Int).toNat false : List Bool)).bind fun y105 => (if 0 ≤ (wrap64 (Int.tdiv a1 2)) then (if (wrap64 (Int.tdiv a1 2)) < (y105.length : Int) then (impl_GraphSize.l0 kj2 (y105.set ((wrap64 (Int.tdiv a1 2)) : Int).toNat true) 0 (wrap64 ((y105.length : Int) - 1)) a0_0 l0_1) else (none)) else (none))) else (none)) else (none)) = some r := H
    have A15 := Aside0.mk A150; clear A150
    obtain ⟨ji16, hji16⟩ : ∃ j_ : Int, (wrap64 (Int.tdiv t104 2)) = j_ := ⟨_, rfl⟩
    replace H : (if 0 ≤ (ji16) then (if (ji16 : Int).toNat ≤ 281474976710656 then ((some (List.replicate (ji16 : Int).toNat false : List Bool)).bind fun y105 => (if 0 ≤ (wrap64 (Int.tdiv a1 2)) then (if (wrap64 (Int.tdiv a1 2)) < (y105.length : Int) then (impl_GraphSize.l0 kj2 (y105.set ((wrap64 (Int.tdiv a1 2)) : Int).toNat true) 0 (wrap64 ((y105.length : Int) - 1)) a0_0 l0_1) else (none)) else (none))) else (none)) else (none)) = some r := by first | (rw [hji16] at H; exact H) | (simp only [hji16] at H ⊢; exact H)
    (try rw [hji16] at A15)
    have hji16w : (IntKind.i64.wrap (Int.tdiv t104 2)) = ji16 := (i64_w _).trans hji16
    by_cases c17 : 0 ≤ (ji16)
    ·rw [if_pos c17] at H
     have c17b0 := eq_true c17; have c17b1 : decide (0 ≤ (ji16)) = true := decide_eq_true c17; clear c17
     by_cases c18 : (ji16 : Int).toNat ≤ 281474976710656
     ·rw [if_pos c18] at H
      have c18b0 := eq_true c18; have c18b1 : decide ((ji16 : Int).toNat ≤ 281474976710656) = true := decide_eq_true c18; clear c18
      obtain ⟨y105, hy105⟩ : ∃ y_ : List Bool, y_ = (List.replicate (ji16 : Int).toNat false) := ⟨_, rfl⟩
      replace H : (if 0 ≤ (wrap64 (Int.tdiv a1 2)) then (if (wrap64 (Int.tdiv a1 2)) < (y105.length : Int) then (impl_GraphSize.l0 kj2 (y105.set ((wrap64 (Int.tdiv a1 2)) : Int).toNat true) 0 (wrap64 ((y105.length : Int) - 1)) a0_0 l0_1) else (none)) else (none)) = some r := by first | (rw [hy105]; with_reducible exact H) | (have H2_ := (Option.bind_some _ _).symm.trans H; rw [hy105]; with_reducible exact H2_) | (have H2_ := (Option.bind_some _ _).symm.trans H; with_reducible exact H2_) | with_reducible exact H | (rw [hy105]; exact H) | exact H
      have Ny105 := Aside0.mk hy105; clear hy105
      obtain ⟨ji19, hji19⟩ : ∃ j_ : Int, (wrap64 (Int.tdiv a1 2)) = j_ := ⟨_, rfl⟩
      replace H : (if 0 ≤ (ji19) then (if (ji19) < (y105.length : Int) then (impl_GraphSize.l0 kj2 (y105.set ((ji19) : Int).toNat true) 0 (wrap64 ((y105.length : Int) - 1)) a0_0 l0_1) else (none)) else (none)) = some r := by first | (rw [hji19] at H; exact H) | (simp only [hji19] at H ⊢; exact H)
      (try rw [hji19] at A15)
      have hji19w : (IntKind.i64.wrap (Int.tdiv a1 2)) = ji19 := (i64_w _).trans hji19
      by_cases c20 : 0 ≤ (ji19)
      ·rw [if_pos c20] at H
       have c20b0 : decide (0 ≤ (ji19)) = true := decide_eq_true c20; clear c20
       by_cases c21 : (ji19) < (y105.length : Int)
       ·rw [if_pos c21] at H
        have c21b0 : decide ((ji19) < (y105.length : Int)) = true := decide_eq_true c21; clear c21
        obtain ⟨y108, hy108⟩ : ∃ y_ : List Bool, y_ = (y105.set ((ji19) : Int).toNat true) := ⟨_, rfl⟩
        replace H : (impl_GraphSize.l0 kj2 y108 0 (wrap64 ((y105.length : Int) - 1)) a0_0 l0_1) = some r := by first | (rw [hy108]; with_reducible exact H) | (have H2_ := (Option.bind_some _ _).symm.trans H; rw [hy108]; with_reducible exact H2_) | (have H2_ := (Option.bind_some _ _).symm.trans H; with_reducible exact H2_) | with_reducible exact H | (rw [hy108]; exact H) | exact H
        have Ny108 := Aside0.mk hy108; clear hy108
        have H' := Aside0.mk H
        clear H; have hcz23_0 : wc.cell? ⟨gb101, 0, none⟩ = some (.int .i64 a0_0) := (blk_cell BK101.out 0).trans rfl; have hcz23_1 : wc.cell? ⟨gb101, 1, none⟩ = some (.slice A0_1 l0_1.length c0_1) := (blk_cell BK101.out 1).trans rfl; have hfz23_0 := blk_frozen BK101.out 0; have hfz23_1 := blk_frozen BK101.out 1
        go_wp2_with (first | ((with_reducible refine gate_callee (f := 64) rfl ?_); refine goesL_ (some 19) rfl rfl Try.func64 (by kernel_rfl) rfl #[.agg #[.int .i64 a0_0, .slice A0_1 l0_1.length c0_1]] rfl (by (try simp only [List.map_toArray, List.map_cons, List.map_nil]); first | done | rfl | (simp only [List.length_drop, List.length_take]; rfl)) ?_; (with_reducible refine (impl_Graph_wires.calls a0_0 _ _ l0_1 t104 _ ?side1 ?side2 A15.out).mono ?_); (case side1 => repeat (first | exact (Kd.C_below HR0_1.out HB.out) | (with_reducible refine Kd.C_alloc ?_ _) | (with_reducible refine Kd.C_drewN ?_ _) | (with_reducible refine Kd.C_drew ?_))); (case side2 => exact HC0_1.out); rintro e w24 ⟨rfl, hb⟩; refine ⟨_, rfl, ?_⟩; have n0_ := bb BK101 hb; have n1_ := bs1 HB hb GE101; clear BK101; clear HB; have BK101 := n0_; have HB := n1_; clear n0_ n1_; (try clear hb); (try clear hb2); (try clear hk); (try clear hi)) | ((with_reducible refine gate_dst (N := 21) rfl ?_); refine Kd.R_make Kd.bool _ 4 rfl (N := 21) rfl 84 _ _ rfl ji16 rfl rfl Try.underlying84 (.bool false) 1 info4 rfl (by decide) (by omega) false (ok := fun _ => True) (okp := fun _ => True) rfl (fun _ hk => hk) trivial (of_decide_eq_true (by first | (with_reducible assumption) | assumption)) (Nat.le_trans (Nat.mul_le_mul_right _ (of_decide_eq_true (by first | (with_reducible assumption) | assumption) : ji16.toNat ≤ 281474976710656)) (by omega)) (Below.refl _ _) (Nat.le_refl _) ?_; intro v106 w25 ho26 hb hg_ hnew_; clear hg_ hnew_; (first | rw [← Ny105.out] at ho26 | (simp only [Int.reduceToNat] at ho26; rw [← Ny105.out] at ho26)); have n0_ := Aside0.mk (Kd.R_lower ho26 (below_size (by repeat (first | (with_reducible first | exact HB.out | apply below_alloc | apply pw_below_drewN | apply below_drew1 | refine below_set ?_ GE101.out) | exact HB.out)))); have n1_ := bb BK101 hb; have n2_ := bs1 HB hb GE101; clear BK101; clear HB; have HO107 := n0_; have BK101 := n1_; have HB := n2_; clear n0_ n1_ n2_; clear hb ho26; have p22 : 0 ≤ ((ji19) : Int) := of_decide_eq_true (by first | (with_reducible assumption) | assumption); have q22 : ((ji19) : Int) < ((y105.length : Int) : Int) := of_decide_eq_true (by first | (with_reducible assumption) | assumption); obtain ⟨go22, co22, eo22, gb22, gl22, cl22, HG22⟩ := Kd.R_form HO107.out (by omega); (first | cases eo22 | (injection eo22 with ea_ en_ ec_; (first | subst ea_ | (injection ea_ with ea_; subst ea_)); subst ec_; clear en_)); have GB22 := Aside0.mk gb22; have GG22 := Aside0.mk HG22; clear gb22 gl22 HG22; obtain ⟨hx22_0, hf22_0⟩ := Kd.R_celln false HO107.out ((ji19) : Int) p22 q22; replace p22 := eq_true p22; replace q22 := eq_true q22; obtain ⟨hy27_, hz27_⟩ := Kd.R_celln false HO107.out ((ji19) : Int) (of_decide_eq_true (by first | (with_reducible assumption) | assumption)) (of_decide_eq_true (by first | (with_reducible assumption) | assumption)); have HP27 := Kd.R_putg HO107.out ((ji19) : Int) true) | ((with_reducible refine gate_store (t := 4) (p := 25) rfl ?_); refine store_event (t := 4) (p := 25) (v := ?vo_w28) (w1 := (w25.setCell ⟨go22, ((ji19) : Int).toNat, none⟩ (.bool true))) ?hg ?ho ?hn ?hr ?_; (case ho => rfl); (case hg => rfl); (case hn => rfl); (case hr => first | (go_simp; done) | (go_simp; rfl)); intro w28 hw; have hg : w25.grownBy w28 (some go22) := (by rw [hw]; exact HP27.2); have hp_ : Kd.R Kd.bool 4 w28 w.heap.size (fun _ => True) (.slice (some ⟨go22, 0, none⟩) y105.length co22) y108 := (by rw [hw, Ny108.out]; exact HP27.1); clear HP27; have n0_ := Aside0.mk (blk_grown (g := gb101) (o := .cells #[.int .i64 a0_0, .slice A0_1 l0_1.length c0_1] 29 (0, 0)) (dr BK101) hg (Kd.R_ne HO107.out BK101.out (by decide))); have n1_ := Aside0.mk (hp_); have n2_ := Aside0.mk ((by rw [hw]; exact below_set (HB.out) GB22.out : Below w.heap.size w w28)); clear BK101; clear HO107; clear HB; have BK101 := n0_; have HO107 := n1_; have HB := n2_; clear n0_ n1_ n2_; clear hg hw hp_))
        go_loopg [6, 7] kj2 (fun kq v6 v7 w' => ∃ (x5_2 : List Bool) (x6_2 : Int) (x7_2 : Int), v6 = .int .i64 x6_2 ∧ v7 = .int .i64 x7_2 ∧ Aside0 (impl_GraphSize.l0 kq x5_2 x6_2 x7_2 a0_0 l0_1 = some r) ∧ Aside0 (kq ≤ kj2) ∧ Aside0 (Kd.R Kd.bool 4 w' w.heap.size (fun _ => True) (.slice (some ⟨go22, 0, none⟩) y105.length co22) x5_2) ∧ Aside0 (w'.heap[gb101]? = some (.cells #[.int .i64 a0_0, (.slice A0_1 l0_1.length c0_1)] 29 (0, 0))) ∧ Aside0 (Below w.heap.size w w'))
        case atStart => exact ⟨(y108), (0), (wrap64 ((y105.length : Int) - 1)), (by first | rfl | (simp; done) | (simp [*]; done)), (by first | rfl | (simp; done) | (simp [*]; done)), H', ⟨Nat.le_refl _⟩, ⟨by (with_reducible repeat (first | apply Kd.R_alloc | apply Kd.R_drewN | apply Kd.R_drew)); exact HO107.out⟩, ⟨by (with_reducible repeat (first | refine blk_drewN ?_ _ | refine blk_drew ?_ | refine blk_alloc ?_ _)); exact BK101.out⟩, ⟨by repeat (first | (with_reducible first | exact HB.out | apply below_alloc | apply pw_below_drewN | apply below_drew1 | refine below_set ?_ GE101.out) | exact HB.out)⟩⟩
        case round =>
         clear H'
         (try clear c1); (try clear c2); (try clear p2); (try clear q2); (try clear hx2); (try clear hf2); (try clear c6); (try clear p6); (try clear c14); (try clear c17); (try clear c17b0); (try clear c17b1); (try clear c18); (try clear c18b0); (try clear c18b1); (try clear c20); (try clear c20b0); (try clear c21); (try clear c21b0); (try clear p22); (try clear q22); (try clear hx22); (try clear hf22); (try clear hcz10_0); (try clear hcz10_1); (try clear hcz12_0); (try clear hcz12_1); (try clear hcz23_0); (try clear hcz23_1); (try clear hcz8_0); (try clear hcz8_1); (try clear hfz10_0); (try clear hfz10_1); (try clear hfz12_0); (try clear hfz12_1); (try clear hfz23_0); (try clear hfz23_1); (try clear hfz8_0); (try clear hfz8_1); (try clear hx22_0); (try clear p2); (try clear p22); (try clear q22)
         obtain ⟨x5_2, x6_2, x7_2, rfl, rfl, HA, HK2, HO_5, BK101, HB⟩ := hrel
         have hl5_2 := (Kd.R_reads' HO_5.out).1
         rw [hl5_2] at HO_5
         (try simp only [hl5_2])
         (try simp only [hl5_2] at BK101)
         cases gk with
                  | zero => exact absurd HA.out (by simp [impl_GraphSize.l0])
                  | succ k2 =>
          have H := HA.out; clear HA
          simp only [impl_GraphSize.l0] at H
          by_cases c29 : x7_2 > a0_0
          ·rw [if_pos c29] at H
           have c29b0 : decide (a0_0 < x7_2) = true := decide_eq_true c29; clear c29
           by_cases c30 : 0 ≤ x7_2
           ·rw [if_pos c30] at H
            have c30b0 : decide (0 ≤ x7_2) = true := decide_eq_true c30; clear c30
            by_cases c31 : x7_2 < (x5_2.length : Int)
            ·rw [if_pos c31] at H
             have c31b0 : decide (x7_2 < (x5_2.length : Int)) = true := decide_eq_true c31; clear c31
             (try (have c31h0 := c31b0; simp only [hl5_2] at c31h0))
             obtain ⟨bq32, hbq32⟩ : ∃ b_ : Bool, b_ = (rdOf false x5_2 x7_2) := ⟨_, rfl⟩
             replace H : (if bq32 = true then (if 0 ≤ (wrap64 ((wrap64 (x7_2 - a0_0)) - 1)) then (if (wrap64 ((wrap64 (x7_2 - a0_0)) - 1)) < (l0_1.length : Int) then (if 0 ≤ (wrap64 (Int.tdiv ((rd_T79 l0_1 (wrap64 ((wrap64 (x7_2 - a0_0)) - 1))).f0) 2)) then (if (wrap64 (Int.tdiv ((rd_T79 l0_1 (wrap64 ((wrap64 (x7_2 - a0_0)) - 1))).f0) 2)) < (x5_2.length : Int) then (if 0 ≤ (wrap64 (Int.tdiv ((rd_T79 l0_1 (wrap64 ((wrap64 (x7_2 - a0_0)) - 1))).f1) 2)) then (if (wrap64 (Int.tdiv ((rd_T79 l0_1 (wrap64 ((wrap64 (x7_2 - a0_0)) - 1))).f1) 2)) < (x5_2.length : Int) then (impl_GraphSize.l0 k2 ((x5_2.set ((wrap64 (Int.tdiv ((rd_T79 l0_1 (wrap64 ((wrap64 (x7_2 - a0_0)) - 1))).f0) 2)) : Int).toNat true).set ((wrap64 (Int.tdiv ((rd_T79 l0_1 (wrap64 ((wrap64 (x7_2 - a0_0)) - 1))).f1) 2)) : Int).toNat true) (wrap64 (x6_2 + 1)) (wrap64 (x7_2 - 1)) a0_0 l0_1) else (none)) else (none)) else (none)) else (none)) else (none)) else (none)) else (impl_GraphSize.l0 k2 x5_2 x6_2 (wrap64 (x7_2 - 1)) a0_0 l0_1)) = some r := by rw [← hbq32] at H; exact H
             have Nbq32 := Aside0.mk hbq32; clear hbq32
             by_cases c33 : bq32 = true
             ·subst c33
              have H1 : (if 0 ≤ (wrap64 ((wrap64 (x7_2 - a0_0)) - 1)) then (if (wrap64 ((wrap64 (x7_2 - a0_0)) - 1)) < (l0_1.length : Int) then (if 0 ≤ (wrap64 (Int.tdiv ((rd_T79 l0_1 (wrap64 ((wrap64 (x7_2 - a0_0)) - 1))).f0) 2)) then (if (wrap64 (Int.tdiv ((rd_T79 l0_1 (wrap64 ((wrap64 (x7_2 - a0_0)) - 1))).f0) 2)) < (x5_2.length : Int) then (if 0 ≤ (wrap64 (Int.tdiv ((rd_T79 l0_1 (wrap64 ((wrap64 (x7_2 - a0_0)) - 1))).f1) 2)) then (if (wrap64 (Int.tdiv ((rd_T79 l0_1 (wrap64 ((wrap64 (x7_2 - a0_0)) - 1))).f1) 2)) < (x5_2.length : Int) then (impl_GraphSize.l0 k2 ((x5_2.set ((wrap64 (Int.tdiv ((rd_T79 l0_1 (wrap64 ((wrap64 (x7_2 - a0_0)) - 1))).f0) 2)) : Int).toNat true).set ((wrap64 (Int.tdiv ((rd_T79 l0_1 (wrap64 ((wrap64 (x7_2 - a0_0)) - 1))).f1) 2)) : Int).toNat true) (wrap64 (x6_2 + 1)) (wrap64 (x7_2 - 1)) a0_0 l0_1) else (none)) else (none)) else (none)) else (none)) else (none)) else (none)) = some r := by rw [if_pos rfl] at H; exact H
              clear H; have H := H1; clear H1
              obtain ⟨ji34, hji34⟩ : ∃ j_ : Int, (wrap64 ((wrap64 (x7_2 - a0_0)) - 1)) = j_ := ⟨_, rfl⟩
              replace H : (if 0 ≤ (ji34) then (if (ji34) < (l0_1.length : Int) then (if 0 ≤ (wrap64 (Int.tdiv ((rd_T79 l0_1 (ji34)).f0) 2)) then (if (wrap64 (Int.tdiv ((rd_T79 l0_1 (ji34)).f0) 2)) < (x5_2.length : Int) then (if 0 ≤ (wrap64 (Int.tdiv ((rd_T79 l0_1 (ji34)).f1) 2)) then (if (wrap64 (Int.tdiv ((rd_T79 l0_1 (ji34)).f1) 2)) < (x5_2.length : Int) then (impl_GraphSize.l0 k2 ((x5_2.set ((wrap64 (Int.tdiv ((rd_T79 l0_1 (ji34)).f0) 2)) : Int).toNat true).set ((wrap64 (Int.tdiv ((rd_T79 l0_1 (ji34)).f1) 2)) : Int).toNat true) (wrap64 (x6_2 + 1)) (wrap64 (x7_2 - 1)) a0_0 l0_1) else (none)) else (none)) else (none)) else (none)) else (none)) else (none)) = some r := by first | (rw [hji34] at H; exact H) | (simp only [hji34] at H ⊢; exact H)
              have hji34w : (IntKind.i64.wrap ((wrap64 (x7_2 - a0_0)) - 1)) = ji34 := (i64_w _).trans hji34
              by_cases c35 : 0 ≤ (ji34)
              ·rw [if_pos c35] at H
               have c35b0 : decide (0 ≤ (ji34)) = true := decide_eq_true c35; clear c35
               by_cases c36 : (ji34) < (l0_1.length : Int)
               ·rw [if_pos c36] at H
                have c36b0 : decide ((ji34) < (l0_1.length : Int)) = true := decide_eq_true c36; clear c36
                (try (have c36h0 := c36b0; simp only [hl5_2] at c36h0))
                obtain ⟨ji37, hji37⟩ : ∃ j_ : Int, (wrap64 (Int.tdiv ((rd_T79 l0_1 (ji34)).f0) 2)) = j_ := ⟨_, rfl⟩
                replace H : (if 0 ≤ (ji37) then (if (ji37) < (x5_2.length : Int) then (if 0 ≤ (wrap64 (Int.tdiv ((rd_T79 l0_1 (ji34)).f1) 2)) then (if (wrap64 (Int.tdiv ((rd_T79 l0_1 (ji34)).f1) 2)) < (x5_2.length : Int) then (impl_GraphSize.l0 k2 ((x5_2.set ((ji37) : Int).toNat true).set ((wrap64 (Int.tdiv ((rd_T79 l0_1 (ji34)).f1) 2)) : Int).toNat true) (wrap64 (x6_2 + 1)) (wrap64 (x7_2 - 1)) a0_0 l0_1) else (none)) else (none)) else (none)) else (none)) = some r := by first | (rw [hji37] at H; exact H) | (simp only [hji37] at H ⊢; exact H)
                have hji37w : (IntKind.i64.wrap (Int.tdiv ((rd_T79 l0_1 (ji34)).f0) 2)) = ji37 := (i64_w _).trans hji37
                by_cases c38 : 0 ≤ (ji37)
                ·rw [if_pos c38] at H
                 have c38b0 : decide (0 ≤ (ji37)) = true := decide_eq_true c38; clear c38
                 by_cases c39 : (ji37) < (x5_2.length : Int)
                 ·rw [if_pos c39] at H
                  have c39b0 : decide ((ji37) < (x5_2.length : Int)) = true := decide_eq_true c39; clear c39
                  (try (have c39h0 := c39b0; simp only [hl5_2] at c39h0))
                  obtain ⟨y112, hy112⟩ : ∃ y_ : List Bool, y_ = (x5_2.set ((ji37) : Int).toNat true) := ⟨_, rfl⟩
                  replace H : (if 0 ≤ (wrap64 (Int.tdiv ((rd_T79 l0_1 (ji34)).f1) 2)) then (if (wrap64 (Int.tdiv ((rd_T79 l0_1 (ji34)).f1) 2)) < (x5_2.length : Int) then (impl_GraphSize.l0 k2 (y112.set ((wrap64 (Int.tdiv ((rd_T79 l0_1 (ji34)).f1) 2)) : Int).toNat true) (wrap64 (x6_2 + 1)) (wrap64 (x7_2 - 1)) a0_0 l0_1) else (none)) else (none)) = some r := by first | (rw [hy112]; with_reducible exact H) | (have H2_ := (Option.bind_some _ _).symm.trans H; rw [hy112]; with_reducible exact H2_) | (have H2_ := (Option.bind_some _ _).symm.trans H; with_reducible exact H2_) | with_reducible exact H | (rw [hy112]; exact H) | exact H
                  have Ny112 := Aside0.mk hy112; clear hy112
                  obtain ⟨ji41, hji41⟩ : ∃ j_ : Int, (wrap64 (Int.tdiv ((rd_T79 l0_1 (ji34)).f1) 2)) = j_ := ⟨_, rfl⟩
                  replace H : (if 0 ≤ (ji41) then (if (ji41) < (x5_2.length : Int) then (impl_GraphSize.l0 k2 (y112.set ((ji41) : Int).toNat true) (wrap64 (x6_2 + 1)) (wrap64 (x7_2 - 1)) a0_0 l0_1) else (none)) else (none)) = some r := by first | (rw [hji41] at H; exact H) | (simp only [hji41] at H ⊢; exact H)
                  have hji41w : (IntKind.i64.wrap (Int.tdiv ((rd_T79 l0_1 (ji34)).f1) 2)) = ji41 := (i64_w _).trans hji41
                  by_cases c42 : 0 ≤ (ji41)
                  ·rw [if_pos c42] at H
                   have c42b0 : decide (0 ≤ (ji41)) = true := decide_eq_true c42; clear c42
                   by_cases c43 : (ji41) < (x5_2.length : Int)
                   ·rw [if_pos c43] at H
                    have c43b0 : decide ((ji41) < (x5_2.length : Int)) = true := decide_eq_true c43; clear c43
                    (try (have c43h0 := c43b0; simp only [hl5_2] at c43h0))
                    obtain ⟨y113, hy113⟩ : ∃ y_ : List Bool, y_ = (y112.set ((ji41) : Int).toNat true) := ⟨_, rfl⟩
                    replace H : (impl_GraphSize.l0 k2 y113 (wrap64 (x6_2 + 1)) (wrap64 (x7_2 - 1)) a0_0 l0_1) = some r := by first | (rw [hy113]; with_reducible exact H) | (have H2_ := (Option.bind_some _ _).symm.trans H; rw [hy113]; with_reducible exact H2_) | (have H2_ := (Option.bind_some _ _).symm.trans H; with_reducible exact H2_) | with_reducible exact H | (rw [hy113]; exact H) | exact H
                    have Ny113 := Aside0.mk hy113; clear hy113
                    have H' := Aside0.mk H
                    clear H; have hcz45_0 : wr.cell? ⟨gb101, 0, none⟩ = some (.int .i64 a0_0) := (blk_cell BK101.out 0).trans rfl; have hcz45_1 : wr.cell? ⟨gb101, 1, none⟩ = some (.slice A0_1 l0_1.length c0_1) := (blk_cell BK101.out 1).trans rfl; have hfz45_0 := blk_frozen BK101.out 0; have hfz45_1 := blk_frozen BK101.out 1
                    have p109 : 0 ≤ (x7_2 : Int) := of_decide_eq_true (by first | (with_reducible assumption) | assumption)
                    have q109 : x7_2 < (x5_2.length : Int) := of_decide_eq_true (by first | (with_reducible assumption) | assumption)
                    obtain ⟨ad109, e109, hx109_0⟩ := Kd.at_bool (Kd.R_reads' HO_5.out).2.2 x7_2 p109 q109
                    (try rw [← Nbq32.out] at hx109_0)
                    obtain rfl : (⟨go22, 0, none⟩ : Addr) = ad109 := (by injection e109)
                    (first | simp only [add_plain] at hx109_0 | simp only [add_at] at hx109_0 | simp only [Addr.add, Nat.zero_add] at hx109_0 | skip)
                    replace p109 := eq_true p109
                    replace q109 := eq_true q109
                    have p110 : 0 ≤ ((ji34) : Int) := of_decide_eq_true (by first | (with_reducible assumption) | assumption)
                    have q110 : (ji34) < (l0_1.length : Int) := of_decide_eq_true (by first | (with_reducible assumption) | assumption)
                    obtain ⟨ad110, e110, hx110_0, hx110_1⟩ := at_T79 HR0_1.out (ji34) p110 q110
                    cases e110
                    replace hx110_0 := (HB.out.cell (World.block_lt_of_cell? w _ hx110_0)).trans hx110_0
                    replace hx110_1 := (HB.out.cell (World.block_lt_of_cell? w _ hx110_1)).trans hx110_1
                    replace p110 := eq_true p110
                    replace q110 := eq_true q110
                    go_wp2_with (first | ((with_reducible refine gate_dst (N := 8) rfl ?_); refine box_event ?hg (N := 8) ?hd (cs := #[.int .i64 0, .int .i64 0]) (t := 79) ?hr ?_; (case hd => rfl); (case hg => rfl); (case hr => first | (go_simp; done) | (go_simp; rfl)); intro gb111 hg w46 hbox hb; have n0_ := rb HO_5 hb; have n1_ := bb BK101 hb; have n2_ := bs1 HB hb GE101; have n3_ := Aside0.mk (hbox); have n4_ := bz1 hg HB GE101; have n5_ := bz1 hg HB GE101; have n6_ := nl hg BK101; have n7_ := ng hg BK101; clear HO_5; clear BK101; clear HB; have HO_5 := n0_; have BK101 := n1_; have HB := n2_; have BK111 := n3_; have GW111 := n4_; have GE111 := n5_; have NB101_111 := n6_; have NB111_101 := n7_; clear n0_ n1_ n2_ n3_ n4_ n5_ n6_ n7_; clear hb hbox hg; have hnb47 := NB111_101.out; have hnc47 := NB101_111.out; have hcz48_0 : w46.cell? ⟨gb111, 0, none⟩ = some (.int .i64 0) := (blk_cell BK111.out 0).trans rfl; have hcz48_1 : w46.cell? ⟨gb111, 1, none⟩ = some (.int .i64 0) := (blk_cell BK111.out 1).trans rfl; have hfz48_0 := blk_frozen BK111.out 0; have hfz48_1 := blk_frozen BK111.out 1) | ((with_reducible refine gate_store (t := 79) (p := 8) rfl ?_); refine store_event (t := 79) (p := 8) (v := ?vo_w49) (w1 := ((w46.setCell ⟨gb111, 0, none⟩ (.int .i64 ((rd_T79 l0_1 (ji34)).f0))).setCell ⟨gb111, 1, none⟩ (.int .i64 ((rd_T79 l0_1 (ji34)).f1)))) ?hg ?ho ?hn ?hr ?_; (case ho => rfl); (case hg => rfl); (case hn => rfl); (case hr => first | (go_simp; done) | (go_simp; rfl)); intro w49 hw; have n0_ : Aside0 (Kd.R Kd.bool 4 w49 w.heap.size (fun _ => True) (.slice (some ⟨go22, 0, none⟩) x5_2.length co22) x5_2) := ⟨(by rw [hw]; exact (by (with_reducible repeat (first | apply Kd.R_alloc | apply Kd.R_drewN | apply Kd.R_drew)); exact Kd.R_mono (Kd.R_far (p := ⟨gb111, 1, none⟩) (Kd.R_far (p := ⟨gb111, 0, none⟩) (Kd.R_types HO_5.out BK111.out (by decide)) (fun _ hk => hk.2) (.int .i64 ((rd_T79 l0_1 (ji34)).f0))) (fun _ hk => hk.2) (.int .i64 ((rd_T79 l0_1 (ji34)).f1))) (fun _ hk => trivial)))⟩; have n1_ : Aside0 (w49.heap[gb101]? = some (.cells #[.int .i64 a0_0, .slice (some ad110) l0_1.length c0_1] 29 (0, 0))) := ⟨(by rw [hw]; exact (dq BK101 NB101_111))⟩; have n2_ : Aside0 (w49.heap[gb111]? = some (.cells #[.int .i64 ((rd_T79 l0_1 (ji34)).f0), .int .i64 ((rd_T79 l0_1 (ji34)).f1)] 79 (0, 0))) := ⟨(by rw [hw]; exact (by (with_reducible repeat (first | refine blk_drewN ?_ _ | refine blk_drew ?_ | refine blk_alloc ?_ _)); exact bp2 BK111.out))⟩; have n3_ : Aside0 (Below w.heap.size w w49) := ⟨(by rw [hw]; exact (by repeat (first | (with_reducible first | exact HB.out | apply below_alloc | apply pw_below_drewN | apply below_drew1 | refine below_set ?_ GE101.out | refine below_set ?_ GE111.out) | exact HB.out)))⟩; clear hw; clear HO_5; clear BK101; clear BK111; clear HB; have HO_5 := n0_; have BK101 := n1_; have BK111 := n2_; have HB := n3_; clear n0_ n1_ n2_ n3_; have hcz50_0 : w49.cell? ⟨gb111, 0, none⟩ = some (.int .i64 ((rd_T79 l0_1 (ji34)).f0)) := (blk_cell BK111.out 0).trans rfl; have hcz50_1 : w49.cell? ⟨gb111, 1, none⟩ = some (.int .i64 ((rd_T79 l0_1 (ji34)).f1)) := (blk_cell BK111.out 1).trans rfl; have hfz50_0 := blk_frozen BK111.out 0; have hfz50_1 := blk_frozen BK111.out 1; have p40 : 0 ≤ ((ji37) : Int) := of_decide_eq_true (by first | (with_reducible assumption) | assumption); have q40 : ((ji37) : Int) < ((x5_2.length : Int) : Int) := of_decide_eq_true (by first | (with_reducible assumption) | assumption); obtain ⟨hx40_0, hf40_0⟩ := Kd.R_celln false HO_5.out ((ji37) : Int) p40 q40; replace p40 := eq_true p40; replace q40 := eq_true q40; obtain ⟨hy51_, hz51_⟩ := Kd.R_celln false HO_5.out ((ji37) : Int) (of_decide_eq_true (by first | (with_reducible assumption) | assumption)) (of_decide_eq_true (by first | (with_reducible assumption) | assumption)); have HP51 := Kd.R_putg HO_5.out ((ji37) : Int) true) | ((with_reducible refine gate_store (t := 4) (p := 55) rfl ?_); refine store_event (t := 4) (p := 55) (v := ?vo_w52) (w1 := (w49.setCell ⟨go22, ((ji37) : Int).toNat, none⟩ (.bool true))) ?hg ?ho ?hn ?hr ?_; (case ho => rfl); (case hg => rfl); (case hn => rfl); (case hr => first | (go_simp; done) | (go_simp; rfl)); intro w52 hw; have hg : w49.grownBy w52 (some go22) := (by rw [hw]; exact HP51.2); have hp_ : Kd.R Kd.bool 4 w52 w.heap.size (fun _ => True) (.slice (some ⟨go22, 0, none⟩) x5_2.length co22) y112 := (by rw [hw, Ny112.out]; exact HP51.1); clear HP51; have n0_ := Aside0.mk (hp_); have n1_ := Aside0.mk (blk_grown (g := gb101) (o := .cells #[.int .i64 a0_0, .slice (some ad110) l0_1.length c0_1] 29 (0, 0)) (dr BK101) hg (Kd.R_ne HO_5.out BK101.out (by decide))); have n2_ := Aside0.mk (blk_grown (g := gb111) (o := .cells #[.int .i64 ((rd_T79 l0_1 (ji34)).f0), .int .i64 ((rd_T79 l0_1 (ji34)).f1)] 79 (0, 0)) (dr BK111) hg (Kd.R_ne HO_5.out BK111.out (by decide))); have n3_ := Aside0.mk ((by rw [hw]; exact below_set (HB.out) GB22.out : Below w.heap.size w w52)); clear HO_5; clear BK101; clear BK111; clear HB; have HO_5 := n0_; have BK101 := n1_; have BK111 := n2_; have HB := n3_; clear n0_ n1_ n2_ n3_; clear hg hw hp_; have hcz53_0 : w52.cell? ⟨gb111, 0, none⟩ = some (.int .i64 ((rd_T79 l0_1 (ji34)).f0)) := (blk_cell BK111.out 0).trans rfl; have hcz53_1 : w52.cell? ⟨gb111, 1, none⟩ = some (.int .i64 ((rd_T79 l0_1 (ji34)).f1)) := (blk_cell BK111.out 1).trans rfl; have hfz53_0 := blk_frozen BK111.out 0; have hfz53_1 := blk_frozen BK111.out 1; have p44 : 0 ≤ ((ji41) : Int) := of_decide_eq_true (by first | (with_reducible assumption) | assumption); have q44 : ((ji41) : Int) < ((x5_2.length : Int) : Int) := of_decide_eq_true (by first | (with_reducible assumption) | assumption); obtain ⟨hx44_0, hf44_0⟩ := Kd.R_celln false HO_5.out ((ji41) : Int) p44 q44; replace p44 := eq_true p44; replace q44 := eq_true q44; obtain ⟨hy54_, hz54_⟩ := Kd.R_celln false HO_5.out ((ji41) : Int) (of_decide_eq_true (by first | (with_reducible assumption) | assumption)) (of_decide_eq_true (by first | (with_reducible assumption) | assumption)); have HP54 := Kd.R_putg HO_5.out ((ji41) : Int) true) | ((with_reducible refine gate_store (t := 4) (p := 60) rfl ?_); refine store_event (t := 4) (p := 60) (v := ?vo_w55) (w1 := (w52.setCell ⟨go22, ((ji41) : Int).toNat, none⟩ (.bool true))) ?hg ?ho ?hn ?hr ?_; (case ho => rfl); (case hg => rfl); (case hn => rfl); (case hr => first | (go_simp; done) | (go_simp; rfl)); intro w55 hw; have hg : w52.grownBy w55 (some go22) := (by rw [hw]; exact HP54.2); have hp_ : Kd.R Kd.bool 4 w55 w.heap.size (fun _ => True) (.slice (some ⟨go22, 0, none⟩) x5_2.length co22) y113 := (by rw [hw, Ny113.out]; exact HP54.1); clear HP54; have n0_ := Aside0.mk (hp_); have n1_ := Aside0.mk (blk_grown (g := gb101) (o := .cells #[.int .i64 a0_0, .slice (some ad110) l0_1.length c0_1] 29 (0, 0)) (dr BK101) hg (Kd.R_ne HO_5.out BK101.out (by decide))); have n2_ := Aside0.mk (blk_grown (g := gb111) (o := .cells #[.int .i64 ((rd_T79 l0_1 (ji34)).f0), .int .i64 ((rd_T79 l0_1 (ji34)).f1)] 79 (0, 0)) (dr BK111) hg (Kd.R_ne HO_5.out BK111.out (by decide))); have n3_ := Aside0.mk ((by rw [hw]; exact below_set (HB.out) GB22.out : Below w.heap.size w w55)); clear HO_5; clear BK101; clear BK111; clear HB; have HO_5 := n0_; have BK101 := n1_; have BK111 := n2_; have HB := n3_; clear n0_ n1_ n2_ n3_; clear hg hw hp_))
                    (try simp only [← hl5_2])
                    go_roundg k2
                    case measure => have := HJ2.out; have := HK2.out; omega
                    case rel => exact ⟨(y113), (wrap64 (x6_2 + 1)), (wrap64 (x7_2 - 1)), (by first | rfl | (simp; done) | (simp [*]; done)), (by first | rfl | (simp; done) | (simp [*]; done)), H', ⟨by have := HJ2.out; have := HK2.out; omega⟩, ⟨by (try simp only [hl5_2]); (with_reducible repeat (first | apply Kd.R_alloc | apply Kd.R_drewN | apply Kd.R_drew)); exact HO_5.out⟩, ⟨by (try simp only [hl5_2]); (with_reducible repeat (first | refine blk_drewN ?_ _ | refine blk_drew ?_ | refine blk_alloc ?_ _)); exact BK101.out⟩, ⟨by repeat (first | (with_reducible first | exact HB.out | apply below_alloc | apply pw_below_drewN | apply below_drew1 | refine below_set ?_ GE101.out | refine below_set ?_ GE111.out) | exact HB.out)⟩⟩
                   ·rw [if_neg c43] at H
                    (try (have c43h0 := c43b0; simp only [hl5_2] at c43h0))
                    exact absurd H (by simp)
                  ·rw [if_neg c42] at H
                   exact absurd H (by simp)
                 ·rw [if_neg c39] at H
                  (try (have c39h0 := c39b0; simp only [hl5_2] at c39h0))
                  exact absurd H (by simp)
                ·rw [if_neg c38] at H
                 exact absurd H (by simp)
               ·rw [if_neg c36] at H
                (try (have c36h0 := c36b0; simp only [hl5_2] at c36h0))
                exact absurd H (by simp)
              ·rw [if_neg c35] at H
               exact absurd H (by simp)
             ·replace c33 := Bool.eq_false_iff.mpr c33
              subst c33
              have H1 : (impl_GraphSize.l0 k2 x5_2 x6_2 (wrap64 (x7_2 - 1)) a0_0 l0_1) = some r := by rw [if_neg (show ¬ (false = true) by decide)] at H; exact H
              clear H; have H := H1; clear H1
              have H' := Aside0.mk H
              clear H; have hcz56_0 : wr.cell? ⟨gb101, 0, none⟩ = some (.int .i64 a0_0) := (blk_cell BK101.out 0).trans rfl; have hcz56_1 : wr.cell? ⟨gb101, 1, none⟩ = some (.slice A0_1 l0_1.length c0_1) := (blk_cell BK101.out 1).trans rfl; have hfz56_0 := blk_frozen BK101.out 0; have hfz56_1 := blk_frozen BK101.out 1
              have p109 : 0 ≤ (x7_2 : Int) := of_decide_eq_true (by first | (with_reducible assumption) | assumption)
              have q109 : x7_2 < (x5_2.length : Int) := of_decide_eq_true (by first | (with_reducible assumption) | assumption)
              obtain ⟨ad109, e109, hx109_0⟩ := Kd.at_bool (Kd.R_reads' HO_5.out).2.2 x7_2 p109 q109
              (try rw [← Nbq32.out] at hx109_0)
              obtain rfl : (⟨go22, 0, none⟩ : Addr) = ad109 := (by injection e109)
              (first | simp only [add_plain] at hx109_0 | simp only [add_at] at hx109_0 | simp only [Addr.add, Nat.zero_add] at hx109_0 | skip)
              replace p109 := eq_true p109
              replace q109 := eq_true q109
              go_wp2
              (try simp only [← hl5_2])
              go_roundg k2
              case measure => have := HJ2.out; have := HK2.out; omega
              case rel => exact ⟨(x5_2), (x6_2), (wrap64 (x7_2 - 1)), (by first | rfl | (simp; done) | (simp [*]; done)), (by first | rfl | (simp; done) | (simp [*]; done)), H', ⟨by have := HJ2.out; have := HK2.out; omega⟩, ⟨by (try simp only [hl5_2]); (with_reducible repeat (first | apply Kd.R_alloc | apply Kd.R_drewN | apply Kd.R_drew)); exact HO_5.out⟩, ⟨by (try simp only [hl5_2]); (with_reducible repeat (first | refine blk_drewN ?_ _ | refine blk_drew ?_ | refine blk_alloc ?_ _)); exact BK101.out⟩, ⟨by repeat (first | (with_reducible first | exact HB.out | apply below_alloc | apply pw_below_drewN | apply below_drew1 | refine below_set ?_ GE101.out) | exact HB.out)⟩⟩
            ·rw [if_neg c31] at H
             (try (have c31h0 := c31b0; simp only [hl5_2] at c31h0))
             exact absurd H (by simp)
           ·rw [if_neg c30] at H
            exact absurd H (by simp)
          ·rw [if_neg c29] at H
           have c29b0 : decide (a0_0 < x7_2) = false := decide_eq_false c29; clear c29
           obtain rfl := Option.some.inj H
           have hcz57_0 : wr.cell? ⟨gb101, 0, none⟩ = some (.int .i64 a0_0) := (blk_cell BK101.out 0).trans rfl; have hcz57_1 : wr.cell? ⟨gb101, 1, none⟩ = some (.slice A0_1 l0_1.length c0_1) := (blk_cell BK101.out 1).trans rfl; have hfz57_0 := blk_frozen BK101.out 0; have hfz57_1 := blk_frozen BK101.out 1
           go_wp2
           go_ret
           exact ⟨by first | rfl | (simp [errW_none, errW_some] <;> rfl) | (simp only [← hji16, ← hji19]; first | rfl | (simp [errW_none, errW_some] <;> rfl)) | (simp [*, errW_none, errW_some] <;> rfl), by repeat (first | (with_reducible first | exact HB.out | apply below_alloc | apply pw_below_drewN | apply below_drew1 | refine below_set ?_ GE101.out) | exact HB.out)⟩
       ·rw [if_neg c21] at H
        exact absurd H (by simp)
      ·rw [if_neg c20] at H
       exact absurd H (by simp)
     ·rw [if_neg c18] at H
      exact absurd H (by simp)
    ·rw [if_neg c17] at H
     exact absurd H (by simp)
end Go.Proofs.Yteagogcpbcickaa.G
set_option linter.unusedSimpArgs false
set_option linter.unusedVariables false
namespace Go.Proofs.Yteagogcpbcickaa.Cp
open Go.RowKit Go.Proofs.YteagogcpbcickaaW.PrintWords Go.Proofs.YteagogcpbcickaaW.PrintLast Go.Proofs.YteagogcpbcickaaW.PrintMore Go.Proofs.YteagogcpbcickaaW.PrintWords.Kd
theorem copy_at {P : Program} {ops : Array Oper} {rest : List Oper} {o : Oper} {a : Act} {Q : Exit → Act → World → Prop} {α : Type} {enc : α → Value} {h1 : ∀ x, (enc x).oneCell' = true} {d : α} {w0 W : World} (base : Nat) (hgd : o.guard = none) (s x : Operand) (t t' e : TypeId)
    (ho : o.op = .call { callee := .builtin .copy, args := #[s, x], argTypes := #[t, t'] }) (ht : P.underlying t = some (.slice e)) (hinfo : (P.info? e).map (·.size) = some 1)
    {g n c L : Nat} {xs ys : List α} {ok : Nat → Prop} {A1 : Option Addr} {n1 c1 : Nat} {A : Option Addr} {m c2 : Nat} (hs : a.eval s = .slice A1 n1 c1) (hx : a.eval x = .slice A m c2)
    (hA : A1 = if c = L then some ⟨g, 0, none⟩ else some ((⟨g, 0, none⟩ : Addr).add L)) (hn : n1 = n - L) (hL : L ≤ n)
    (HO : (scalar enc h1).R e W base ok (.slice (some ⟨g, 0, none⟩) n c) xs) (HR : (scalar enc h1).C W A m ys) (HB : Below base w0 W) (hbase : base ≤ W.heap.size)
    (h : ∀ w1, (scalar enc h1).R e w1 base ok (.slice (some ⟨g, 0, none⟩) n c) (xs.take L ++ (ys.take (xs.length - L) ++ xs.drop (L + ys.length))) → Below base w0 w1 → W.grownBy w1 (some g) → wpList P ops Q rest (a.put o.dst (.int .i64 ((min m n1 : Nat) : Int))) w1) :
    wpList P ops Q (o :: rest) a W := by
  have hR := reads_of_C (enc := enc) (d := d) (h1 := h1) HR
  have hm : ys.length = m := hR.1
  have hn' : n = xs.length := (R_reads' HO).1
  have hnc0 : n ≤ c := (R_reads' HO).2.1
  have hown := own_of_R HO
  have fin : ∀ w1, (Builtin.copy_ #[t, t'] o.type #[.slice A1 n1 c1, .slice A m c2]).run P W = .ok (goInt ((min m n1 : Nat) : Int)) w1 → (scalar enc h1).R e w1 base ok (.slice (some ⟨g, 0, none⟩) n c) (xs.take L ++ (ys.take (xs.length - L) ++ xs.drop (L + ys.length))) → W.grownBy w1 (some g) → wpList P ops Q (o :: rest) a W := by
    intro w1 hr hrow hg
    refine wpList_plain hgd fun K hK => ?_
    unfold Oper.wp execOp
    simp only [ho, resolve, invoke, builtin, Sem.run_bind, Sem.run_pure, Result.andThen_ok, List.map_toArray, List.map_cons, List.map_nil, hs, hx, hr]
    exact hK _ _ (h w1 hrow (HB.grown hg hbase (fun k hk => own_base hown k (by rw [← hk]; rfl))) hg)
  rcases Nat.eq_zero_or_pos (min m n1) with h0 | hp
  · refine fin W ?_ ?_ (World.grownBy.refl W _)
    · rw [h0]
      exact run_copy_none W t t' o.type e A1 A n1 c1 m c2 ht hinfo h0
    · have hz : xs.take L ++ (ys.take (xs.length - L) ++ xs.drop (L + ys.length)) = xs := by
        rcases Nat.eq_zero_or_pos ys.length with hy | hy
        · rw [List.length_eq_zero_iff.1 hy]
          simp
        · have : xs.length - L = 0 := by omega
          rw [this, List.take_zero, List.nil_append, List.drop_eq_nil_of_le (by omega), List.take_of_length_le (by omega), List.append_nil]
      rw [hz]
      exact HO
  · obtain ⟨ad, hAd, hc⟩ := hR.2.2 (by omega)
    have hA1 : A1 = some ⟨g, L, none⟩ := by rw [hA, if_neg (by omega), add_plain]
    rcases hown.2 with ⟨hv, _⟩ | ⟨g', cap, cur, hv, hb, hh, hnc, hcm, hcs, htake⟩
    · injection hv with hv _ _
      cases hv
    injection hv with hv1 hv2 hv3
    injection hv1 with hv1
    injection hv1 with hv1 _ _
    subst hv1
    subst hv3
    have hcs1 : cur.size = c := by omega
    have hkl : (encs enc (ys.take (min m n1))).length = min m n1 := by rw [encs_length, List.length_take]; omega
    have hsrc : ∀ j u, (encs enc (ys.take (min m n1)))[j]? = some u → W.cell? (ad.add j) = some u := by
      intro j u hu
      have hj : j < (ys.take (min m n1)).length := by
        rcases Nat.lt_or_ge j (ys.take (min m n1)).length with h | h
        · exact h
        · rw [List.getElem?_eq_none (by rw [encs_length]; exact h)] at hu
          cases hu
      have hjm : j < min m n1 := by rw [List.length_take] at hj; omega
      rw [encs_get (d := d) _ j hj] at hu
      rw [hc j (by omega), ← hu]
      simp [List.getD_eq_getElem?_getD, hjm]
    have hr := run_copy_cells (P := P) W t t' o.type e g L n1 c1 ad m c2 (encs enc (ys.take (min m n1))) ht hinfo (by rw [hkl]) hsrc
      (fun j hj => by rw [cell_of_row W g _ cur e (0, 0) hh]; simp; omega) (fun j _ => blk_frozen hh _) (by intro u hu; simp only [encs, List.mem_map] at hu; obtain ⟨q, _, rfl⟩ := hu; exact h1 q)
    obtain ⟨cur', h3, h4, h5⟩ := setCells_row (encs enc (ys.take (min m n1))) L W cur hh (by rw [hkl]; omega)
    obtain ⟨s1, s2, s3, s4⟩ := setCells_same g (encs enc (ys.take (min m n1))) L W
    have hln : (xs.take L ++ (ys.take (xs.length - L) ++ xs.drop (L + ys.length))).length = n := by
      simp only [List.length_append, List.length_take, List.length_drop]
      omega
    refine fin _ (by rw [hA1, hAd, hr, hkl]) (R_of_own ?_ HO.1) ⟨s1, s2, s3, by rw [s4]; exact Nat.le_refl _, fun k _ hk => setCells_far _ _ k (fun he => hk (by rw [he]))⟩
    rw [hln]
    refine ⟨by rw [encs_length, hln, Nat.mul_one], .inr ⟨g, c, cur', rfl, hb, h3, hnc0, hcm, by rw [h4, hcs], ?_⟩⟩
    rw [h5, hkl, Nat.mul_one]
    have htk : cur.toList.take n = encs enc xs := by rw [hn', ← htake, Nat.mul_one]
    have e1 : cur.toList.take L = encs enc (xs.take L) := by
      have : cur.toList.take L = (cur.toList.take n).take L := by rw [List.take_take, Nat.min_eq_left hL]
      rw [this, htk]
      simp [encs, List.map_take]
    have hM : ys.take (min m n1) = ys.take (xs.length - L) := by
      rcases Nat.le_total m n1 with hq | hq
      · rw [Nat.min_eq_left hq, List.take_of_length_le (by omega), List.take_of_length_le (by omega)]
      · rw [Nat.min_eq_right hq, hn, hn']
    have e2 : (cur.toList.drop (L + min m n1)).take (n - (L + min m n1)) = encs enc (xs.drop (L + ys.length)) := by
      rw [← List.drop_take, htk]
      simp only [encs, ← List.map_drop]
      rcases Nat.le_total m n1 with hq | hq
      · rw [Nat.min_eq_left hq, hm]
      · rw [Nat.min_eq_right hq, show xs.drop (L + n1) = [] from List.drop_eq_nil_of_le (by omega), show xs.drop (L + ys.length) = [] from List.drop_eq_nil_of_le (by omega)]
    rw [List.append_assoc, List.take_append, List.take_of_length_le (by rw [List.length_take]; omega), e1, hM, encs_append, encs_append]
    congr 1
    have hk2 : (encs enc (ys.take (xs.length - L))).length = min m n1 := by rw [← hM]; exact hkl
    rw [List.take_append, List.take_of_length_le (by rw [hk2, encs_length, List.length_take]; omega), ← e2]
    congr 2
    rw [hk2, encs_length, List.length_take]
    omega
end Go.Proofs.Yteagogcpbcickaa.Cp
