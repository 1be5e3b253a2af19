-- texts of this session, merged by a program of it (wip/gen/pack.py)
import Derived.Test.YteagogcpbcickaaKFnExactGraphSize1
import Derived.Test.YteagogcpbcickaaKFnExactGraphSize4
import Derived.Laws.BitsLemmas
import Derived.Test.YteagogcpbcickaaKFnExactGraphSize2
import Derived.Test.YteagogcpbcickaaKFnExactGraphSize3
import Derived.ProofKit
import Derived.WalkKit
import Derived.Deep.Slices
import Derived.OpenShut
import Derived.ChangeVars
import Derived.ChangeOld
import Derived.Below
import Derived.Test.YteagogcpbcickaaWWords
import Derived.Test.YteagogcpbcickaaRows
import Derived.ShutString
-- written by a program of this session (wip/gen/gen.py); Lean checks it
namespace Go.Proofs.Yteagogcpbcickaa.G
open Go.RowKit Go.Proofs.YteagogcpbcickaaW.PrintWords Go.Proofs.YteagogcpbcickaaW.PrintLast Go.Proofs.YteagogcpbcickaaW.PrintMore
attribute [local go_sem] max2_int min2_int max_two min_two max_three min_three max_four min_four   -- for this text's walks alone
set_option linter.unusedVariables false
set_option linter.unusedSimpArgs false

/-! ### spec_l07Vals: function 66 -/
def spec_l07Vals.l0 : Nat → List Int → Int → Int → List (S79) → Option (List Int)
  | 0, _, _, _, _ => none
  | k + 1, x5, x6, x102000, x102001 => if x6 < (x102001.length : Int) then (if 0 ≤ x6 then (if 0 ≤ (wrap64 (Int.tdiv ((rd_T79 x102001 x6).f0) 2)) then (if (wrap64 (Int.tdiv ((rd_T79 x102001 x6).f0) 2)) < (x5.length : Int) then (if 0 ≤ (wrap64 (Int.tdiv ((rd_T79 x102001 x6).f1) 2)) then (if (wrap64 (Int.tdiv ((rd_T79 x102001 x6).f1) 2)) < (x5.length : Int) then (if x5.length < 17592186044416 then (spec_l07Vals.l0 k (x5 ++ [Go.bits .and .i64 (Go.bits .xor .i64 (rd x5 (wrap64 (Int.tdiv ((rd_T79 x102001 x6).f0) 2))) (Int.tmod ((rd_T79 x102001 x6).f0) 2)) (Go.bits .xor .i64 (rd x5 (wrap64 (Int.tdiv ((rd_T79 x102001 x6).f1) 2))) (Int.tmod ((rd_T79 x102001 x6).f1) 2))]) (wrap64 (x6 + 1)) x102000 x102001) else (none)) else (none)) else (none)) else (none)) else (none)) else (none)) else (some x5)
def spec_l07Vals.f (k : Nat) (a0_0 : Int) (l0_1 : List (S79)) (l1 : List Int) : Option (List Int) := (some (([0] : List Int) : List Int)).bind fun y102 => (if y102.length + l1.length < 17592186044416 then (spec_l07Vals.l0 k (y102 ++ l1) 0 a0_0 l0_1) else (none))
def spec_l07Vals.T5 : Bool × List (List Nat × List Nat) := (true, [([], []), ([0], [0]), ([], []), ([1, 2], [1, 2]), ([3], [3]), ([4], [4]), ([], []), ([6], [6]), ([], []), ([7, 8], [7, 8]), ([9], [9]), ([10], [10]), ([5, 0, 1, 2, 3, 4, 5], [5]), ([11, 12, 0, 1, 2, 3, 4, 5, 6, 7, 8, 9, 10, 11, 12], [11])])
def spec_l07Vals.B5 : List Nat := [0, 1, 0, 7, 15, 31, 0, 64, 0, 448, 960, 1984, 63, 8191]
theorem spec_l07Vals.tab5 : rtab .any (opsOf Try.f66 5) = spec_l07Vals.T5 := by kernel_rfl
theorem spec_l07Vals.bits5 : waitsOk spec_l07Vals.T5.2 spec_l07Vals.B5 = true := by kernel_rfl
def spec_l07Vals.T6 : Bool × List (List Nat × List Nat) := (true, [([], []), ([], []), ([], []), ([2], [2]), ([1, 3], [1, 3]), ([4], [4]), ([], []), ([6], [6]), ([5, 7], [5, 7]), ([], []), ([], []), ([10], [10]), ([9, 11], [9, 11]), ([12], [12]), ([], []), ([14], [14]), ([13, 15], [13, 15]), ([8, 16], [8, 16]), ([17], [17]), ([0, 18], [0, 18]), ([19, 19, 0, 1, 2, 3, 4, 5, 6, 7, 8, 9, 10, 11, 12, 13, 14, 15, 16, 17, 18, 19], [0, 1, 9, 19])])
def spec_l07Vals.B6 : List Nat := [0, 0, 0, 4, 14, 30, 0, 64, 254, 0, 0, 1024, 3584, 7680, 0, 16384, 65024, 131070, 262142, 524287, 1048575]
theorem spec_l07Vals.tab6 : rtab .any (opsOf Try.f66 6) = spec_l07Vals.T6 := by kernel_rfl
theorem spec_l07Vals.bits6 : waitsOk spec_l07Vals.T6.2 spec_l07Vals.B6 = true := by kernel_rfl
set_option maxHeartbeats 8000000 in
set_option maxRecDepth 100000 in
theorem spec_l07Vals.calls (k : Nat) (a0_0 : Int) (A0_1 : Option Addr) (c0_1 : Nat) (l0_1 : List (S79)) (A1 : Option Addr) (c1 : Nat) (l1 : List Int) (r : List Int) (w : World) (hr0_1 : Kd.C k79 w A0_1 l0_1.length l0_1) (hc0_1 : l0_1.length ≤ c0_1) (hr1 : Kd.C (Kd.int .i64) w A1 l1.length l1) (hc1 : l1.length ≤ c1) (h : spec_l07Vals.f k a0_0 l0_1 l1 = some r) :
    Calls Try.prog 66 #[.agg #[.int .i64 a0_0, .slice A0_1 l0_1.length c0_1], .slice A1 l1.length c1] w fun e w' => ∃ v0_ : Value, e = .returned (v0_) ∧ Kd.R (Kd.int .i64) 3 w' w.heap.size (fun _ => True) v0_ r ∧ Below w.heap.size w w' := by
  have hu29 := Try.underlying29
  have HR0_1 := Aside0.mk hr0_1
  have HC0_1 := Aside0.mk hc0_1
  clear hr0_1 hc0_1
  have HR1 := Aside0.mk hr1
  have HC1 := Aside0.mk hc1
  clear hr1 hc1
  have HB := Aside0.mk (Below.refl w.heap.size w)
  have H : ((some (([0] : List Int) : List Int)).bind fun y102 => (if y102.length + l1.length < 17592186044416 then (spec_l07Vals.l0 k (y102 ++ l1) 0 a0_0 l0_1) else (none))) = some r := h
  clear h
  obtain ⟨y102, hy102⟩ : ∃ y_ : List Int, y_ = (([0] : List Int)) := ⟨_, rfl⟩
  replace H : (if y102.length + l1.length < 17592186044416 then (spec_l07Vals.l0 k (y102 ++ l1) 0 a0_0 l0_1) else (none)) = some r := by first | (rw [hy102]; with_reducible exact H) | (have H2_ := (Option.bind_some _ _).symm.trans H; rw [hy102]; with_reducible exact H2_) | (have H2_ := (Option.bind_some _ _).symm.trans H; with_reducible exact H2_) | with_reducible exact H | (rw [hy102]; exact H) | exact H
  have Ny102 := Aside0.mk hy102
  clear hy102
  by_cases c3 : y102.length + l1.length < 17592186044416
  · rw [if_pos c3] at H
    have LMc3 := Aside0.mk c3
    clear c3
    obtain ⟨y105, hy105⟩ : ∃ y_ : List Int, y_ = (y102 ++ l1) := ⟨_, rfl⟩
    replace H : (spec_l07Vals.l0 k y105 0 a0_0 l0_1) = some r := by first | (rw [hy105]; with_reducible exact H) | (have H2_ := (Option.bind_some _ _).symm.trans H; rw [hy105]; with_reducible exact H2_) | (have H2_ := (Option.bind_some _ _).symm.trans H; with_reducible exact H2_) | with_reducible exact H | (rw [hy105]; exact H) | exact H
    have Ny105 := Aside0.mk hy105
    clear hy105
    have H' := Aside0.mk H
    clear H
    go_enter Try.func66, Try.ntmps66
    go_wp2_with (first | ((with_reducible refine gate_dst (N := 2) rfl ?_); refine box_event ?hg (N := 2) ?hd (cs := #[.int .i64 a0_0, .slice A0_1 l0_1.length c0_1]) (t := 29) ?hr ?_; (case hd => rfl); (case hg => rfl); (case hr => first | (go_simp; done) | (go_simp; rfl)); intro gb101 hg w4 hbox hb; have n0_ := Aside0.mk (below_step (by repeat (first | (with_reducible first | exact HB.out | apply below_alloc | apply pw_below_drewN | apply below_drew1) | exact HB.out)) hb); have n1_ := Aside0.mk (hbox); have n2_ := Aside0.mk ((by rw [hg]; exact (below_size (by repeat (first | (with_reducible first | exact HB.out | apply below_alloc | apply pw_below_drewN | apply below_drew1) | exact HB.out))) : w.heap.size ≤ gb101)); have n3_ := Aside0.mk ((by rw [hg]; exact (below_size (by repeat (first | (with_reducible first | exact HB.out | apply below_alloc | apply pw_below_drewN | apply below_drew1) | exact HB.out))) : w.heap.size ≤ gb101)); clear HB; have HB := n0_; have BK101 := n1_; have GW101 := n2_; have GE101 := n3_; clear n0_ n1_ n2_ n3_; clear hb hbox hg) | ((with_reducible refine gate_dst (N := 9) rfl ?_); refine Kd.R_lit (Kd.int .i64) _ 3 ?hg (N := 9) ?hd (xs := ([0] : List Int)) (inner := [.int .i64 0]) (ok := fun _ => True) (okp := fun _ => True) ?hr ?hp (fun _ hk => hk) trivial (Below.refl _ _) (Nat.le_refl _) (by simp) ?_; (case hd => rfl); (case hg => rfl); (case hr => first | (go_simp; done) | (go_simp; rfl)); (case hp => exact (Reps.one (show Kd.M (Kd.int .i64) _ _ _ 0 [.int .i64 0] from rfl) (Reps.none _ _))); intro v103 w5 ho6 hb hg_ hnew_; clear hg_ hnew_; (first | rw [← Ny102.out] at ho6 | (simp only [Int.reduceToNat] at ho6; rw [← Ny102.out] at ho6)); have n0_ := Aside0.mk (Kd.R_lower ho6 (below_size (by repeat (first | (with_reducible first | exact HB.out | apply below_alloc | apply pw_below_drewN | apply below_drew1 | refine below_set ?_ GE101.out) | exact HB.out)))); have n1_ := Aside0.mk (blk_below (g := gb101) (o := .cells #[.int .i64 a0_0, .slice A0_1 l0_1.length c0_1] 29 (0, 0)) (by (with_reducible repeat (first | refine blk_drewN ?_ _ | refine blk_drew ?_ | refine blk_alloc ?_ _)); exact BK101.out) hb); have n2_ := Aside0.mk (below_step (by repeat (first | (with_reducible first | exact HB.out | apply below_alloc | apply pw_below_drewN | apply below_drew1 | refine below_set ?_ GE101.out) | exact HB.out)) hb); clear BK101; clear HB; have HO104 := n0_; have BK101 := n1_; have HB := n2_; clear n0_ n1_ n2_; clear hb ho6) | ((with_reducible refine gate_builtin (b := .append) (xs := #[.tmp 9, .tmp 10]) rfl ?_); at_builtin; refine Kd.R_append_rows (Kd.int .i64) (w0 := w) w.heap.size rfl (.tmp 9) (.tmp 10) 40 3 (.int .i64 0) 8 rfl Try.underlying40 info3 rfl (by decide) (by omega) v103 y102 l1 _ _ _ (fun _ => True) (fun _ => False) rfl rfl ?aO ?aR (fun _ _ h => h) (fun _ h => h.elim) ?aF ?aB ?aS ?aL ?_; (case aR => repeat (first | exact (Kd.C_below HR1.out HB.out) | (with_reducible refine Kd.C_alloc ?_ _) | (with_reducible refine Kd.C_drewN ?_ _) | (with_reducible refine Kd.C_drew ?_))); (case aB => exact (by repeat (first | (with_reducible first | exact HB.out | apply below_alloc | apply pw_below_drewN | apply below_drew1 | refine below_set ?_ GE101.out) | exact HB.out))); (case aF => exact (fun _ _ => trivial)); (case aO => exact (by (with_reducible repeat (first | apply Kd.R_alloc | apply Kd.R_drewN | apply Kd.R_drew)); exact HO104.out)); (case aS => exact (below_size (by repeat (first | (with_reducible first | exact HB.out | apply below_alloc | apply pw_below_drewN | apply below_drew1 | refine below_set ?_ GE101.out) | exact HB.out)))); (case aL => have := LMc3.out; omega); intro v106 w7 ho hb hg hat; rw [← Ny105.out] at ho; have n0_ := Aside0.mk (blk_grown (g := gb101) (o := .cells #[.int .i64 a0_0, .slice A0_1 l0_1.length c0_1] 29 (0, 0)) (by (with_reducible repeat (first | refine blk_drewN ?_ _ | refine blk_drew ?_ | refine blk_alloc ?_ _)); exact BK101.out) hg (Kd.R_ne HO104.out BK101.out (by decide))); have n1_ := Aside0.mk (hb); have n2_ := Aside0.mk (ho); clear BK101; clear HB; clear HO104; have BK101 := n0_; have HB := n1_; have HO107 := n2_; clear n0_ n1_ n2_; clear ho hb hg hat))
    go_loopg [5, 6] k (fun kq v5 v6 w' => ∃ (x5_1 : List Int) (x6_1 : Int), v6 = .int .i64 x6_1 ∧ Aside0 (spec_l07Vals.l0 kq x5_1 x6_1 a0_0 l0_1 = some r) ∧ Aside0 (kq ≤ k) ∧ Aside0 (Kd.R (Kd.int .i64) 3 w' w.heap.size (fun _ => True) v5 x5_1) ∧ Aside0 (w'.heap[gb101]? = some (.cells #[.int .i64 a0_0, (.slice A0_1 l0_1.length c0_1)] 29 (0, 0))) ∧ Aside0 (Below w.heap.size w w'))
    case atStart => exact ⟨(y105), (0), (by first | rfl | (simp; done) | (simp [*]; done)), H', ⟨Nat.le_refl _⟩, ⟨by (with_reducible repeat (first | apply Kd.R_alloc | apply Kd.R_drewN | apply Kd.R_drew)); exact HO107.out⟩, ⟨by (with_reducible repeat (first | refine blk_drewN ?_ _ | refine blk_drew ?_ | refine blk_alloc ?_ _)); exact BK101.out⟩, ⟨by repeat (first | (with_reducible first | exact HB.out | apply below_alloc | apply pw_below_drewN | apply below_drew1 | refine below_set ?_ GE101.out) | exact HB.out)⟩⟩
    case round =>
      clear H'
      try clear c1
      try clear p2
      try clear c3
      try clear c6
      obtain ⟨x5_1, x6_1, rfl, HA, HK1, HO_5, BK101, HB⟩ := hrel
      cases gk with
      | zero => exact absurd HA.out (by simp [spec_l07Vals.l0])
      | succ k1 =>
        have H := HA.out
        clear HA
        simp only [spec_l07Vals.l0] at H
        by_cases c8 : x6_1 < (l0_1.length : Int)
        · rw [if_pos c8] at H
          have c8b0 : decide (x6_1 < (l0_1.length : Int)) = true := decide_eq_true c8
          clear c8
          by_cases c9 : 0 ≤ x6_1
          · rw [if_pos c9] at H
            have c9b0 : decide (0 ≤ x6_1) = true := decide_eq_true c9
            clear c9
            obtain ⟨ji10, hji10⟩ : ∃ j_ : Int, (wrap64 (Int.tdiv ((rd_T79 l0_1 x6_1).f0) 2)) = j_ := ⟨_, rfl⟩
            replace H : (if 0 ≤ (ji10) then (if (ji10) < (x5_1.length : Int) then (if 0 ≤ (wrap64 (Int.tdiv ((rd_T79 l0_1 x6_1).f1) 2)) then (if (wrap64 (Int.tdiv ((rd_T79 l0_1 x6_1).f1) 2)) < (x5_1.length : Int) then (if x5_1.length < 17592186044416 then (spec_l07Vals.l0 k1 (x5_1 ++ [Go.bits .and .i64 (Go.bits .xor .i64 (rd x5_1 (ji10)) (Int.tmod ((rd_T79 l0_1 x6_1).f0) 2)) (Go.bits .xor .i64 (rd x5_1 (wrap64 (Int.tdiv ((rd_T79 l0_1 x6_1).f1) 2))) (Int.tmod ((rd_T79 l0_1 x6_1).f1) 2))]) (wrap64 (x6_1 + 1)) a0_0 l0_1) else (none)) else (none)) else (none)) else (none)) else (none)) = some r := by first | (rw [hji10] at H; exact H) | (simp only [hji10] at H ⊢; exact H)
            have hji10w : (IntKind.i64.wrap (Int.tdiv ((rd_T79 l0_1 x6_1).f0) 2)) = ji10 := (i64_w _).trans hji10
            by_cases c11 : 0 ≤ (ji10)
            · rw [if_pos c11] at H
              have c11b0 : decide (0 ≤ (ji10)) = true := decide_eq_true c11
              clear c11
              by_cases c12 : (ji10) < (x5_1.length : Int)
              · rw [if_pos c12] at H
                have c12b0 : decide ((ji10) < (x5_1.length : Int)) = true := decide_eq_true c12
                clear c12
                obtain ⟨ji13, hji13⟩ : ∃ j_ : Int, (wrap64 (Int.tdiv ((rd_T79 l0_1 x6_1).f1) 2)) = j_ := ⟨_, rfl⟩
                replace H : (if 0 ≤ (ji13) then (if (ji13) < (x5_1.length : Int) then (if x5_1.length < 17592186044416 then (spec_l07Vals.l0 k1 (x5_1 ++ [Go.bits .and .i64 (Go.bits .xor .i64 (rd x5_1 (ji10)) (Int.tmod ((rd_T79 l0_1 x6_1).f0) 2)) (Go.bits .xor .i64 (rd x5_1 (ji13)) (Int.tmod ((rd_T79 l0_1 x6_1).f1) 2))]) (wrap64 (x6_1 + 1)) a0_0 l0_1) else (none)) else (none)) else (none)) = some r := by first | (rw [hji13] at H; exact H) | (simp only [hji13] at H ⊢; exact H)
                have hji13w : (IntKind.i64.wrap (Int.tdiv ((rd_T79 l0_1 x6_1).f1) 2)) = ji13 := (i64_w _).trans hji13
                by_cases c14 : 0 ≤ (ji13)
                · rw [if_pos c14] at H
                  have c14b0 : decide (0 ≤ (ji13)) = true := decide_eq_true c14
                  clear c14
                  by_cases c15 : (ji13) < (x5_1.length : Int)
                  · rw [if_pos c15] at H
                    have c15b0 : decide ((ji13) < (x5_1.length : Int)) = true := decide_eq_true c15
                    clear c15
                    by_cases c16 : x5_1.length < 17592186044416
                    · rw [if_pos c16] at H
                      have LMc16 := Aside0.mk c16
                      clear c16
                      obtain ⟨y112, hy112⟩ : ∃ y_ : List Int, y_ = (x5_1 ++ [Go.bits .and .i64 (Go.bits .xor .i64 (rd x5_1 (ji10)) (Int.tmod ((rd_T79 l0_1 x6_1).f0) 2)) (Go.bits .xor .i64 (rd x5_1 (ji13)) (Int.tmod ((rd_T79 l0_1 x6_1).f1) 2))]) := ⟨_, rfl⟩
                      replace H : (spec_l07Vals.l0 k1 y112 (wrap64 (x6_1 + 1)) a0_0 l0_1) = some r := by first | (rw [hy112]; with_reducible exact H) | (have H2_ := (Option.bind_some _ _).symm.trans H; rw [hy112]; with_reducible exact H2_) | (have H2_ := (Option.bind_some _ _).symm.trans H; with_reducible exact H2_) | with_reducible exact H | (rw [hy112]; exact H) | exact H
                      have Ny112 := Aside0.mk hy112
                      clear hy112
                      have H' := Aside0.mk H
                      clear H
                      have hcz17_0 : wr.cell? ⟨gb101, 0, none⟩ = some (.int .i64 a0_0) := (blk_cell BK101.out 0).trans rfl
                      have hcz17_1 : wr.cell? ⟨gb101, 1, none⟩ = some (.slice A0_1 l0_1.length c0_1) := (blk_cell BK101.out 1).trans rfl
                      have hfz17_0 := blk_frozen BK101.out 0
                      have hfz17_1 := blk_frozen BK101.out 1
                      try go_wp2
                      have n0_ := Aside0.mk (Kd.R_drew HO_5.out)
                      have n1_ := Aside0.mk (blk_drew BK101.out)
                      have n2_ := Aside0.mk (below_drew1 HB.out)
                      clear HO_5
                      clear BK101
                      clear HB
                      have HO_5 := n0_
                      have BK101 := n1_
                      have HB := n2_
                      clear n0_ n1_ n2_
                      have p108 : 0 ≤ (x6_1 : Int) := of_decide_eq_true (by first | (with_reducible assumption) | assumption)
                      have q108 : x6_1 < (l0_1.length : Int) := of_decide_eq_true (by first | (with_reducible assumption) | assumption)
                      obtain ⟨ad108, e108, hx108_0, hx108_1⟩ := at_T79 HR0_1.out x6_1 p108 q108
                      have hw108_1 := hx108_1
                      have hw108_0 := hx108_0
                      cases e108
                      replace hx108_0 := (HB.out.cell (World.block_lt_of_cell? w _ hx108_0)).trans hx108_0
                      replace hx108_1 := (HB.out.cell (World.block_lt_of_cell? w _ hx108_1)).trans hx108_1
                      replace p108 := eq_true p108
                      replace q108 := eq_true q108
                      have p109 : 0 ≤ (x6_1 : Int) := of_decide_eq_true (by first | (with_reducible assumption) | assumption)
                      have q109 : x6_1 < (l0_1.length : Int) := of_decide_eq_true (by first | (with_reducible assumption) | assumption)
                      obtain ⟨ad109, e109, hx109_0, hx109_1⟩ := at_T79 HR0_1.out x6_1 p109 q109
                      have hw109_1 := hx109_1
                      have hw109_0 := hx109_0
                      obtain rfl : ad108 = ad109 := (by injection e109)
                      replace hx109_0 := (HB.out.cell (World.block_lt_of_cell? w _ hx109_0)).trans hx109_0
                      replace hx109_1 := (HB.out.cell (World.block_lt_of_cell? w _ hx109_1)).trans hx109_1
                      replace p109 := eq_true p109
                      replace q109 := eq_true q109
                      refine start_ (n := 14) (S := fun w' => w'.cell? ⟨gb101, 0, none⟩ = some (.int .i64 a0_0) ∧ w'.cell? ⟨gb101, 1, none⟩ = some (.slice (some ad108) l0_1.length c0_1) ∧ w'.cell? (ad108.add ((x6_1).toNat * 2)) = some (.int .i64 ((rd_T79 l0_1 x6_1).f0)) ∧ w'.cell? ⟨(ad108.add ((x6_1).toNat * 2)).block, (ad108.add ((x6_1).toNat * 2)).off + 1, none⟩ = some (.int .i64 ((rd_T79 l0_1 x6_1).f1)) ∧ w'.cell? (ad108.add ((x6_1).toNat * 2)) = some (.int .i64 ((rd_T79 l0_1 x6_1).f0)) ∧ w'.cell? ⟨(ad108.add ((x6_1).toNat * 2)).block, (ad108.add ((x6_1).toNat * 2)).off + 1, none⟩ = some (.int .i64 ((rd_T79 l0_1 x6_1).f1))) (ds := []) #[false, false, false, false, false, false, false, false, false, false, false, false, false, false] (by kernel_rfl) rfl rfl ⟨(blk_cell BK101.out 0).trans rfl, (blk_cell BK101.out 1).trans rfl, ((HB.out.cell (World.block_lt_of_cell? w _ hw108_0)).trans hw108_0), ((HB.out.cell (World.block_lt_of_cell? w _ hw108_1)).trans hw108_1), ((HB.out.cell (World.block_lt_of_cell? w _ hw109_0)).trans hw109_0), ((HB.out.cell (World.block_lt_of_cell? w _ hw109_1)).trans hw109_1)⟩ (fun hHeld => ?_); refine with_tabW spec_l07Vals.tab5 spec_l07Vals.bits5 (fun HT_ HW_ => ?_)
                      generalize wr.drew = w18 at HO_5 BK101 HB hx108_0 hx108_1 hx109_0 hx109_1 hHeld ⊢
                      refine pure_ (i := 0) (N := some 19) (v := ?_) (a' := ?_) #[true, false, false, false, false, false, false, false, false, false, false, false, false, false] rfl rfl (any_of HT_.out (by kernel_rfl)) (fun _ _ _ h => h) (Or.inl ⟨by rfl, ?_⟩) ?_ ?_
                      rotate_left
                      · intro w'
                        go_simp
                        with_reducible rfl
                      rotate_left
                      · simp only [Act.put, List.setIfInBounds_toArray, List.set_cons_zero, List.set_cons_succ, i64_w, i32_w]
                        rfl
                      refine pure_ (i := 2) (N := some 21) (v := ?_) (a' := ?_) #[true, false, true, false, false, false, false, false, false, false, false, false, false, false] rfl rfl (any_of HT_.out (by kernel_rfl)) (fun _ _ _ h => h) (Or.inl ⟨by rfl, ?_⟩) ?_ ?_
                      rotate_left
                      · intro w'
                        go_simp
                        with_reducible rfl
                      rotate_left
                      · simp only [Act.put, List.setIfInBounds_toArray, List.set_cons_zero, List.set_cons_succ, i64_w, i32_w]
                        rfl
                      refine pure_ (i := 6) (N := some 25) (v := ?_) (a' := ?_) #[true, false, true, false, false, false, true, false, false, false, false, false, false, false] rfl rfl (any_of HT_.out (by kernel_rfl)) (fun _ _ _ h => h) (Or.inl ⟨by rfl, ?_⟩) ?_ ?_
                      rotate_left
                      · intro w'
                        go_simp
                        with_reducible rfl
                      rotate_left
                      · simp only [Act.put, List.setIfInBounds_toArray, List.set_cons_zero, List.set_cons_succ, i64_w, i32_w]
                        rfl
                      refine pure_ (i := 8) (N := some 27) (v := ?_) (a' := ?_) #[true, false, true, false, false, false, true, false, true, false, false, false, false, false] rfl rfl (any_of HT_.out (by kernel_rfl)) (fun _ _ _ h => h) (Or.inl ⟨by rfl, ?_⟩) ?_ ?_
                      rotate_left
                      · intro w'
                        go_simp
                        with_reducible rfl
                      rotate_left
                      · simp only [Act.put, List.setIfInBounds_toArray, List.set_cons_zero, List.set_cons_succ, i64_w, i32_w]
                        rfl
                      refine take_ (i := 1) (N := some 20) (v := ?_) (a' := ?_) #[true, true, true, false, false, false, true, false, true, false, false, false, false, false] rfl rfl (take_ofW HT_.out HW_.out (by kernel_rfl)) (fun _ _ _ h => h) (Or.inl ⟨by rfl, ?_⟩) hHeld ?_ ?_
                      rotate_left
                      · rintro w' ⟨s0, s1, s2, s3, s4, s5⟩
                        go_simp
                        with_reducible rfl
                      rotate_left
                      · simp only [Act.put, List.setIfInBounds_toArray, List.set_cons_zero, List.set_cons_succ, i64_w, i32_w]
                        rfl
                      refine pure_ (i := 3) (N := some 22) (v := ?_) (a' := ?_) #[true, true, true, true, false, false, true, false, true, false, false, false, false, false] rfl rfl (any_of HT_.out (by kernel_rfl)) (fun _ _ _ h => h) (Or.inl ⟨by rfl, ?_⟩) ?_ ?_
                      rotate_left
                      · intro w'
                        go_simp
                        with_reducible rfl
                      rotate_left
                      · simp only [Act.put, List.setIfInBounds_toArray, List.set_cons_zero, List.set_cons_succ, i64_w, i32_w]
                        rfl
                      refine pure_ (i := 4) (N := some 23) (v := ?_) (a' := ?_) #[true, true, true, true, true, false, true, false, true, false, false, false, false, false] rfl rfl (any_of HT_.out (by kernel_rfl)) (fun _ _ _ h => h) (Or.inl ⟨by rfl, ?_⟩) ?_ ?_
                      rotate_left
                      · intro w'
                        go_simp
                        with_reducible rfl
                      rotate_left
                      · simp only [Act.put, List.setIfInBounds_toArray, List.set_cons_zero, List.set_cons_succ, i64_w, i32_w]
                        rfl
                      refine take_ (i := 5) (N := some 24) (v := ?_) (a' := ?_) #[true, true, true, true, true, true, true, false, true, false, false, false, false, false] rfl rfl (take_ofW HT_.out HW_.out (by kernel_rfl)) (fun _ _ _ h => h) (Or.inl ⟨by rfl, ?_⟩) hHeld ?_ ?_
                      rotate_left
                      · rintro w' ⟨s0, s1, s2, s3, s4, s5⟩
                        go_simp
                        with_reducible rfl
                      rotate_left
                      · simp only [Act.put, List.setIfInBounds_toArray, List.set_cons_zero, List.set_cons_succ, i64_w, i32_w]
                        rfl
                      refine pure_ (i := 12) (N := some 7) (v := ?_) (a' := ?_) #[true, true, true, true, true, true, true, false, true, false, false, false, true, false] rfl rfl (any_of HT_.out (by kernel_rfl)) (fun _ _ _ h => h) (Or.inl ⟨by rfl, ?_⟩) ?_ ?_
                      rotate_left
                      · intro w'
                        go_simp
                        with_reducible rfl
                      rotate_left
                      · simp only [Act.put, List.setIfInBounds_toArray, List.set_cons_zero, List.set_cons_succ, i64_w, i32_w]
                        rfl
                      refine take_ (i := 7) (N := some 26) (v := ?_) (a' := ?_) #[true, true, true, true, true, true, true, true, true, false, false, false, true, false] rfl rfl (take_ofW HT_.out HW_.out (by kernel_rfl)) (fun _ _ _ h => h) (Or.inl ⟨by rfl, ?_⟩) hHeld ?_ ?_
                      rotate_left
                      · rintro w' ⟨s0, s1, s2, s3, s4, s5⟩
                        go_simp
                        with_reducible rfl
                      rotate_left
                      · simp only [Act.put, List.setIfInBounds_toArray, List.set_cons_zero, List.set_cons_succ, i64_w, i32_w]
                        rfl
                      refine pure_ (i := 9) (N := some 28) (v := ?_) (a' := ?_) #[true, true, true, true, true, true, true, true, true, true, false, false, true, false] rfl rfl (any_of HT_.out (by kernel_rfl)) (fun _ _ _ h => h) (Or.inl ⟨by rfl, ?_⟩) ?_ ?_
                      rotate_left
                      · intro w'
                        go_simp
                        with_reducible rfl
                      rotate_left
                      · simp only [Act.put, List.setIfInBounds_toArray, List.set_cons_zero, List.set_cons_succ, i64_w, i32_w]
                        rfl
                      refine pure_ (i := 10) (N := some 29) (v := ?_) (a' := ?_) #[true, true, true, true, true, true, true, true, true, true, true, false, true, false] rfl rfl (any_of HT_.out (by kernel_rfl)) (fun _ _ _ h => h) (Or.inl ⟨by rfl, ?_⟩) ?_ ?_
                      rotate_left
                      · intro w'
                        go_simp
                        with_reducible rfl
                      rotate_left
                      · simp only [Act.put, List.setIfInBounds_toArray, List.set_cons_zero, List.set_cons_succ, i64_w, i32_w]
                        rfl
                      refine take_ (i := 11) (N := some 30) (v := ?_) (a' := ?_) #[true, true, true, true, true, true, true, true, true, true, true, true, true, false] rfl rfl (take_ofW HT_.out HW_.out (by kernel_rfl)) (fun _ _ _ h => h) (Or.inl ⟨by rfl, ?_⟩) hHeld ?_ ?_
                      rotate_left
                      · rintro w' ⟨s0, s1, s2, s3, s4, s5⟩
                        go_simp
                        with_reducible rfl
                      rotate_left
                      · simp only [Act.put, List.setIfInBounds_toArray, List.set_cons_zero, List.set_cons_succ, i64_w, i32_w]
                        rfl
                      refine pure_ (i := 13) (N := some 8) (v := ?_) (a' := ?_) #[true, true, true, true, true, true, true, true, true, true, true, true, true, true] rfl rfl (any_of HT_.out (by kernel_rfl)) (fun _ _ _ h => h) (Or.inl ⟨by rfl, ?_⟩) ?_ ?_
                      rotate_left
                      · intro w'
                        go_simp
                        with_reducible rfl
                      rotate_left
                      · simp only [Act.put, List.setIfInBounds_toArray, List.set_cons_zero, List.set_cons_succ, i64_w, i32_w]
                        rfl
                      refine done_ (done_of HT_.out (by kernel_rfl)) ?_
                      try go_wp2
                      have n0_ := Aside0.mk (Kd.R_drew HO_5.out)
                      have n1_ := Aside0.mk (blk_drew BK101.out)
                      have n2_ := Aside0.mk (below_drew1 HB.out)
                      clear HO_5
                      clear BK101
                      clear HB
                      have HO_5 := n0_
                      have BK101 := n1_
                      have HB := n2_
                      clear n0_ n1_ n2_
                      obtain ⟨Ao20, co20, eo20⟩ := Kd.R_slice HO_5.out
                      (first | subst eo20 | (injection eo20 with f1_ f2_ f3_; have f4_ := f1_.symm; have f5_ := f3_.symm; clear f1_ f2_ f3_; subst f4_; subst f5_))
                      have p110 : 0 ≤ ((ji10) : Int) := of_decide_eq_true (by first | (with_reducible assumption) | assumption)
                      have q110 : (ji10) < (x5_1.length : Int) := of_decide_eq_true (by first | (with_reducible assumption) | assumption)
                      obtain ⟨ad110, e110, hx110_0⟩ := Kd.at_int (Kd.R_reads' HO_5.out).2.2 (ji10) p110 q110
                      cases e110
                      replace p110 := eq_true p110
                      replace q110 := eq_true q110
                      have p111 : 0 ≤ ((ji13) : Int) := of_decide_eq_true (by first | (with_reducible assumption) | assumption)
                      have q111 : (ji13) < (x5_1.length : Int) := of_decide_eq_true (by first | (with_reducible assumption) | assumption)
                      obtain ⟨ad111, e111, hx111_0⟩ := Kd.at_int (Kd.R_reads' HO_5.out).2.2 (ji13) p111 q111
                      obtain rfl : ad110 = ad111 := (by injection e111)
                      replace p111 := eq_true p111
                      replace q111 := eq_true q111
                      refine start_ (n := 21) (S := fun w' => w'.cell? (ad110.add ((ji10)).toNat) = some (.int .i64 (rd x5_1 (ji10))) ∧ w'.cell? (ad110.add ((ji13)).toNat) = some (.int .i64 (rd x5_1 (ji13)))) (ds := [18, 19]) #[false, false, false, false, false, false, false, false, false, false, false, false, false, false, false, false, false, false, false, false, false] (by kernel_rfl) rfl rfl ⟨hx110_0, hx111_0⟩ (fun hHeld => ?_); refine with_tabW spec_l07Vals.tab6 spec_l07Vals.bits6 (fun HT_ HW_ => ?_)
                      generalize w18.drew = w19 at HO_5 BK101 HB hx110_0 hx111_0 hHeld ⊢
                      refine pure_ (i := 0) (N := some 31) (v := ?_) (a' := ?_) #[true, false, false, false, false, false, false, false, false, false, false, false, false, false, false, false, false, false, false, false, false] rfl rfl (any_of HT_.out (by kernel_rfl)) (fun _ _ _ h => h) (Or.inl ⟨by rfl, ?_⟩) ?_ ?_
                      rotate_left
                      · intro w'
                        go_simp
                        with_reducible rfl
                      rotate_left
                      · simp only [Act.put, List.setIfInBounds_toArray, List.set_cons_zero, List.set_cons_succ, i64_w, i32_w]
                        rfl
                      refine pure_ (i := 1) (N := some 32) (v := ?_) (a' := ?_) #[true, true, false, false, false, false, false, false, false, false, false, false, false, false, false, false, false, false, false, false, false] rfl rfl (any_of HT_.out (by kernel_rfl)) (fun _ _ _ h => h) (Or.inl ⟨by rfl, ?_⟩) ?_ ?_
                      rotate_left
                      · intro w'
                        go_simp
                        with_reducible rfl
                      rotate_left
                      · simp only [Act.put, List.setIfInBounds_toArray, List.set_cons_zero, List.set_cons_succ, i64_w, i32_w]
                        rfl
                      refine pure_ (i := 2) (N := some 33) (v := ?_) (a' := ?_) #[true, true, true, false, false, false, false, false, false, false, false, false, false, false, false, false, false, false, false, false, false] rfl rfl (any_of HT_.out (by kernel_rfl)) (fun _ _ _ h => h) (Or.inl ⟨by rfl, ?_⟩) ?_ ?_
                      rotate_left
                      · intro w'
                        go_simp
                        with_reducible rfl
                      rotate_left
                      · simp only [Act.put, List.setIfInBounds_toArray, List.set_cons_zero, List.set_cons_succ, i64_w, i32_w]
                        rfl
                      refine pure_ (i := 3) (N := some 34) (v := ?_) (a' := ?_) #[true, true, true, true, false, false, false, false, false, false, false, false, false, false, false, false, false, false, false, false, false] rfl rfl (any_of HT_.out (by kernel_rfl)) (fun _ _ _ h => h) (Or.inl ⟨by rfl, ?_⟩) ?_ ?_
                      rotate_left
                      · intro w'
                        go_simp
                        with_reducible rfl
                      rotate_left
                      · simp only [Act.put, List.setIfInBounds_toArray, List.set_cons_zero, List.set_cons_succ, i64_w, i32_w]
                        rfl
                      refine pure_ (i := 4) (N := some 35) (v := ?_) (a' := ?_) #[true, true, true, true, true, false, false, false, false, false, false, false, false, false, false, false, false, false, false, false, false] rfl rfl (any_of HT_.out (by kernel_rfl)) (fun _ _ _ h => h) (Or.inl ⟨by rfl, ?_⟩) ?_ ?_
                      rotate_left
                      · intro w'
                        go_simp
                        with_reducible rfl
                      rotate_left
                      · simp only [Act.put, List.setIfInBounds_toArray, List.set_cons_zero, List.set_cons_succ, i64_w, i32_w]
                        rfl
                      refine pure_ (i := 6) (N := some 37) (v := ?_) (a' := ?_) #[true, true, true, true, true, false, true, false, false, false, false, false, false, false, false, false, false, false, false, false, false] rfl rfl (any_of HT_.out (by kernel_rfl)) (fun _ _ _ h => h) (Or.inl ⟨by rfl, ?_⟩) ?_ ?_
                      rotate_left
                      · intro w'
                        go_simp
                        with_reducible rfl
                      rotate_left
                      · simp only [Act.put, List.setIfInBounds_toArray, List.set_cons_zero, List.set_cons_succ, i64_w, i32_w]
                        rfl
                      refine pure_ (i := 7) (N := some 38) (v := ?_) (a' := ?_) #[true, true, true, true, true, false, true, true, false, false, false, false, false, false, false, false, false, false, false, false, false] rfl rfl (any_of HT_.out (by kernel_rfl)) (fun _ _ _ h => h) (Or.inl ⟨by rfl, ?_⟩) ?_ ?_
                      rotate_left
                      · intro w'
                        go_simp
                        with_reducible rfl
                      rotate_left
                      · simp only [Act.put, List.setIfInBounds_toArray, List.set_cons_zero, List.set_cons_succ, i64_w, i32_w]
                        rfl
                      refine pure_ (i := 9) (N := some 40) (v := ?_) (a' := ?_) #[true, true, true, true, true, false, true, true, false, true, false, false, false, false, false, false, false, false, false, false, false] rfl rfl (any_of HT_.out (by kernel_rfl)) (fun _ _ _ h => h) (Or.inl ⟨by rfl, ?_⟩) ?_ ?_
                      rotate_left
                      · intro w'
                        go_simp
                        with_reducible rfl
                      rotate_left
                      · simp only [Act.put, List.setIfInBounds_toArray, List.set_cons_zero, List.set_cons_succ, i64_w, i32_w]
                        rfl
                      refine pure_ (i := 10) (N := some 41) (v := ?_) (a' := ?_) #[true, true, true, true, true, false, true, true, false, true, true, false, false, false, false, false, false, false, false, false, false] rfl rfl (any_of HT_.out (by kernel_rfl)) (fun _ _ _ h => h) (Or.inl ⟨by rfl, ?_⟩) ?_ ?_
                      rotate_left
                      · intro w'
                        go_simp
                        with_reducible rfl
                      rotate_left
                      · simp only [Act.put, List.setIfInBounds_toArray, List.set_cons_zero, List.set_cons_succ, i64_w, i32_w]
                        rfl
                      refine pure_ (i := 11) (N := some 42) (v := ?_) (a' := ?_) #[true, true, true, true, true, false, true, true, false, true, true, true, false, false, false, false, false, false, false, false, false] rfl rfl (any_of HT_.out (by kernel_rfl)) (fun _ _ _ h => h) (Or.inl ⟨by rfl, ?_⟩) ?_ ?_
                      rotate_left
                      · intro w'
                        go_simp
                        with_reducible rfl
                      rotate_left
                      · simp only [Act.put, List.setIfInBounds_toArray, List.set_cons_zero, List.set_cons_succ, i64_w, i32_w]
                        rfl
                      refine pure_ (i := 12) (N := some 43) (v := ?_) (a' := ?_) #[true, true, true, true, true, false, true, true, false, true, true, true, true, false, false, false, false, false, false, false, false] rfl rfl (any_of HT_.out (by kernel_rfl)) (fun _ _ _ h => h) (Or.inl ⟨by rfl, ?_⟩) ?_ ?_
                      rotate_left
                      · intro w'
                        go_simp
                        with_reducible rfl
                      rotate_left
                      · simp only [Act.put, List.setIfInBounds_toArray, List.set_cons_zero, List.set_cons_succ, i64_w, i32_w]
                        rfl
                      refine pure_ (i := 14) (N := some 45) (v := ?_) (a' := ?_) #[true, true, true, true, true, false, true, true, false, true, true, true, true, false, true, false, false, false, false, false, false] rfl rfl (any_of HT_.out (by kernel_rfl)) (fun _ _ _ h => h) (Or.inl ⟨by rfl, ?_⟩) ?_ ?_
                      rotate_left
                      · intro w'
                        go_simp
                        with_reducible rfl
                      rotate_left
                      · simp only [Act.put, List.setIfInBounds_toArray, List.set_cons_zero, List.set_cons_succ, i64_w, i32_w]
                        rfl
                      refine pure_ (i := 15) (N := some 46) (v := ?_) (a' := ?_) #[true, true, true, true, true, false, true, true, false, true, true, true, true, false, true, true, false, false, false, false, false] rfl rfl (any_of HT_.out (by kernel_rfl)) (fun _ _ _ h => h) (Or.inl ⟨by rfl, ?_⟩) ?_ ?_
                      rotate_left
                      · intro w'
                        go_simp
                        with_reducible rfl
                      rotate_left
                      · simp only [Act.put, List.setIfInBounds_toArray, List.set_cons_zero, List.set_cons_succ, i64_w, i32_w]
                        rfl
                      refine take_ (i := 5) (N := some 36) (v := ?_) (a' := ?_) #[true, true, true, true, true, true, true, true, false, true, true, true, true, false, true, true, false, false, false, false, false] rfl rfl (take_ofW HT_.out HW_.out (by kernel_rfl)) (fun _ _ _ h => h) (Or.inl ⟨by rfl, ?_⟩) hHeld ?_ ?_
                      rotate_left
                      · rintro w' ⟨s0, s1⟩
                        go_simp
                        with_reducible rfl
                      rotate_left
                      · simp only [Act.put, List.setIfInBounds_toArray, List.set_cons_zero, List.set_cons_succ, i64_w, i32_w]
                        rfl
                      refine pure_ (i := 8) (N := some 39) (v := ?_) (a' := ?_) #[true, true, true, true, true, true, true, true, true, true, true, true, true, false, true, true, false, false, false, false, false] rfl rfl (any_of HT_.out (by kernel_rfl)) (fun _ _ _ h => h) (Or.inl ⟨by rfl, ?_⟩) ?_ ?_
                      rotate_left
                      · intro w'
                        go_simp
                        with_reducible rfl
                      rotate_left
                      · simp only [Act.put, List.setIfInBounds_toArray, List.set_cons_zero, List.set_cons_succ, i64_w, i32_w]
                        rfl
                      refine take_ (i := 13) (N := some 44) (v := ?_) (a' := ?_) #[true, true, true, true, true, true, true, true, true, true, true, true, true, true, true, true, false, false, false, false, false] rfl rfl (take_ofW HT_.out HW_.out (by kernel_rfl)) (fun _ _ _ h => h) (Or.inl ⟨by rfl, ?_⟩) hHeld ?_ ?_
                      rotate_left
                      · rintro w' ⟨s0, s1⟩
                        go_simp
                        with_reducible rfl
                      rotate_left
                      · simp only [Act.put, List.setIfInBounds_toArray, List.set_cons_zero, List.set_cons_succ, i64_w, i32_w]
                        rfl
                      refine pure_ (i := 16) (N := some 47) (v := ?_) (a' := ?_) #[true, true, true, true, true, true, true, true, true, true, true, true, true, true, true, true, true, false, false, false, false] rfl rfl (any_of HT_.out (by kernel_rfl)) (fun _ _ _ h => h) (Or.inl ⟨by rfl, ?_⟩) ?_ ?_
                      rotate_left
                      · intro w'
                        go_simp
                        with_reducible rfl
                      rotate_left
                      · simp only [Act.put, List.setIfInBounds_toArray, List.set_cons_zero, List.set_cons_succ, i64_w, i32_w]
                        rfl
                      refine pure_ (i := 17) (N := some 48) (v := ?_) (a' := ?_) #[true, true, true, true, true, true, true, true, true, true, true, true, true, true, true, true, true, true, false, false, false] rfl rfl (any_of HT_.out (by kernel_rfl)) (fun _ _ _ h => h) (Or.inl ⟨by rfl, ?_⟩) ?_ ?_
                      rotate_left
                      · intro w'
                        go_simp
                        with_reducible rfl
                      rotate_left
                      · simp only [Act.put, List.setIfInBounds_toArray, List.set_cons_zero, List.set_cons_succ, i64_w, i32_w]
                        rfl
                      refine last_ (i := 18) (N := some 49) #[true, true, true, true, true, true, true, true, true, true, true, true, true, true, true, true, true, true, true, false, false] rfl rfl (one_of HT_.out (by kernel_rfl)) (by decide) (fun K hK => ?_)
                      refine value_ (w1 := ?_) (v := ?_) (by rfl) rfl ?_ ?_
                      rotate_left 2
                      · go_simp
                        constructor
                        · rfl
                        · rfl
                      refine hK.out _ _ ?_
                      clear hK K
                      refine norm_ (a' := ?_) ?_ ?_
                      rotate_left
                      · show Act.put _ (some 49) _ = _
                        simp only [Act.put, List.setIfInBounds_toArray, List.set_cons_zero, List.set_cons_succ, i64_w, i32_w]
                        rfl
                      refine last_ (i := 19) (N := some 50) #[true, true, true, true, true, true, true, true, true, true, true, true, true, true, true, true, true, true, true, true, false] rfl rfl (one_of HT_.out (by kernel_rfl)) (by decide) (fun K hK => ?_)
                      refine Kd.R_append_step (Kd.int .i64) (w0 := w) w.heap.size (by rfl) (.tmp 31) (.tmp 49) 40 3 (.int .i64 0) 8 rfl Try.underlying40 info3 rfl (by decide) (by omega) (.slice (some ad110) x5_1.length co20) x5_1 (Go.bits .and .i64 (Go.bits .xor .i64 (rd x5_1 (ji10)) (Int.tmod ((rd_T79 l0_1 x6_1).f0) 2)) (Go.bits .xor .i64 (rd x5_1 (ji13)) (Int.tmod ((rd_T79 l0_1 x6_1).f1) 2))) [.int .i64 (Go.bits .and .i64 (Go.bits .xor .i64 (rd x5_1 (ji10)) (Int.tmod ((rd_T79 l0_1 x6_1).f0) 2)) (Go.bits .xor .i64 (rd x5_1 (ji13)) (Int.tmod ((rd_T79 l0_1 x6_1).f1) 2)))] (fun _ => True) (fun _ => False) rfl rfl ?aP (fun _ hk => hk.elim) ?aF ?aO ?aB ?aS ?aL ?_
                      (case aP => exact rfl)
                      (case aB => exact (by repeat (first | (with_reducible first | exact HB.out | apply below_alloc | apply pw_below_drewN | apply below_drew1 | refine below_set ?_ GE101.out) | exact HB.out)))
                      (case aF => exact (fun _ _ => trivial))
                      (case aO => exact (by (with_reducible repeat (first | apply Kd.R_alloc | apply Kd.R_drewN | apply Kd.R_drew)); exact HO_5.out))
                      (case aS => exact (below_size (by repeat (first | (with_reducible first | exact HB.out | apply below_alloc | apply pw_below_drewN | apply below_drew1 | refine below_set ?_ GE101.out) | exact HB.out))))
                      (case aL => have := LMc16.out; omega)
                      intro v113 w21 ho hb hg hat
                      rw [← Ny112.out] at ho
                      have n0_ := Aside0.mk (blk_grown (g := gb101) (o := .cells #[.int .i64 a0_0, .slice (some ad108) l0_1.length c0_1] 29 (0, 0)) (by (with_reducible repeat (first | refine blk_drewN ?_ _ | refine blk_drew ?_ | refine blk_alloc ?_ _)); exact BK101.out) hg (Kd.R_ne HO_5.out BK101.out (by decide)))
                      have n1_ := Aside0.mk (hb)
                      have n2_ := Aside0.mk (ho)
                      clear BK101
                      clear HB
                      clear HO_5
                      have BK101 := n0_
                      have HB := n1_
                      have HO114 := n2_
                      clear n0_ n1_ n2_
                      clear ho hb hg hat
                      refine hK.out _ _ ?_
                      clear hK K
                      refine norm_ (a' := ?_) ?_ ?_
                      rotate_left
                      · show Act.put _ (some 50) _ = _
                        simp only [Act.put, List.setIfInBounds_toArray, List.set_cons_zero, List.set_cons_succ, i64_w, i32_w]
                        rfl
                      refine pure_ (i := 20) (N := some 5) (v := ?_) (a' := ?_) #[true, true, true, true, true, true, true, true, true, true, true, true, true, true, true, true, true, true, true, true, true] rfl rfl (any_of HT_.out (by kernel_rfl)) (fun _ _ _ h => h) (Or.inl ⟨by rfl, ?_⟩) ?_ ?_
                      rotate_left
                      · intro w'
                        go_simp
                        with_reducible rfl
                      rotate_left
                      · simp only [Act.put, List.setIfInBounds_toArray, List.set_cons_zero, List.set_cons_succ, i64_w, i32_w]
                        rfl
                      refine done_ (done_of HT_.out (by kernel_rfl)) ?_
                      try go_wp2
                      go_roundg k1
                      case measure => have := HK1.out; omega
                      case rel => exact ⟨(y112), (wrap64 (x6_1 + 1)), (by first | rfl | (simp; done) | (simp [*]; done)), H', ⟨by have := HK1.out; omega⟩, ⟨by (with_reducible repeat (first | apply Kd.R_alloc | apply Kd.R_drewN | apply Kd.R_drew)); exact HO114.out⟩, ⟨by (with_reducible repeat (first | refine blk_drewN ?_ _ | refine blk_drew ?_ | refine blk_alloc ?_ _)); exact BK101.out⟩, ⟨by repeat (first | (with_reducible first | exact HB.out | apply below_alloc | apply pw_below_drewN | apply below_drew1 | refine below_set ?_ GE101.out) | exact HB.out)⟩⟩
                    · rw [if_neg c16] at H
                      exact absurd H (by simp)
                  · rw [if_neg c15] at H
                    exact absurd H (by simp)
                · rw [if_neg c14] at H
                  exact absurd H (by simp)
              · rw [if_neg c12] at H
                exact absurd H (by simp)
            · rw [if_neg c11] at H
              exact absurd H (by simp)
          · rw [if_neg c9] at H
            exact absurd H (by simp)
        · rw [if_neg c8] at H
          have c8b0 : decide (x6_1 < (l0_1.length : Int)) = false := decide_eq_false c8
          clear c8
          obtain rfl := Option.some.inj H
          have hcz22_0 : wr.cell? ⟨gb101, 0, none⟩ = some (.int .i64 a0_0) := (blk_cell BK101.out 0).trans rfl
          have hcz22_1 : wr.cell? ⟨gb101, 1, none⟩ = some (.slice A0_1 l0_1.length c0_1) := (blk_cell BK101.out 1).trans rfl
          have hfz22_0 := blk_frozen BK101.out 0
          have hfz22_1 := blk_frozen BK101.out 1
          go_wp2
          go_ret
          exact ⟨_, by first | rfl | (simp [errW_none, errW_some] <;> rfl) | (simp [*, errW_none, errW_some] <;> rfl), by (with_reducible repeat (first | apply Kd.R_alloc | apply Kd.R_drewN | apply Kd.R_drew)); exact HO_5.out, by repeat (first | (with_reducible first | exact HB.out | apply below_alloc | apply pw_below_drewN | apply below_drew1 | refine below_set ?_ GE101.out) | exact HB.out)⟩
  · rw [if_neg c3] at H
    exact absurd H (by simp)

end Go.Proofs.Yteagogcpbcickaa.G
/- What the nodes of a right graph are worth. Conditions: each lemma's own hypotheses. -/
set_option linter.unusedSimpArgs false
set_option linter.unusedVariables false
namespace Go.Proofs.Yteagogcpbcickaa.Pure
open Go.RowKit Go.Proofs.Yteagogcpbcickaa.G Go.Proofs.YteagogcpbcickaaW.PrintWords Go.Proofs.YteagogcpbcickaaW.PrintLast Go.Proofs.YteagogcpbcickaaW.PrintMore

theorem wraps_i64' (n : Int) (h₀ : 0 ≤ n) (h₁ : n < 2 ^ 62) : IntKind.i64.wrap n = n := by rw [IntKind.wrap_i64]; omega
theorem bit_nat (k : BinOp) (a b : Nat) (ha : a < 2 ^ 62) (hb : b < 2 ^ 62) : Go.bits .and .i64 (a : Int) (b : Int) = ((a &&& b : Nat) : Int) := (bits_nat .i64 62 (by decide) wraps_i64' a b ha hb).1
theorem and_one' {x : Int} (h0 : 0 ≤ x) (h1 : x < 4611686018427387904) : Go.bits .and .i64 x 1 = x % 2 := by
  obtain ⟨n, rfl⟩ := Int.eq_ofNat_of_zero_le h0
  have := bit_nat .and n 1 (by omega) (by decide)
  rw [show ((1 : Nat) : Int) = 1 from rfl] at this
  rw [this, Nat.and_one_is_mod]
  omega
/-- A wire's value, of the values of the nodes. -/
def gbit (vs : List Int) (w : Int) : Int := Go.bits .xor .i64 (rd vs (w / 2)) (w % 2)
def gv (vs : List Int) (a : S79) : Int := Go.bits .and .i64 (gbit vs a.f0) (gbit vs a.f1)
def gvals (L : List S79) (xs : List Int) : List Int := L.foldl (fun vs a => vs ++ [gv vs a]) (0 :: xs)
theorem gvals_succ (L : List S79) (xs : List Int) (i : Nat) (hi : i < L.length) : gvals (L.take (i + 1)) xs = gvals (L.take i) xs ++ [gv (gvals (L.take i) xs) (rd_T79 L (i : Int))] := by
  unfold gvals
  rw [take_succ_getD L i z79 hi, List.foldl_append, rdA_nat]
  rfl
theorem gvals_len (L : List S79) (xs : List Int) : (gvals L xs).length = 1 + xs.length + L.length := by
  have h : ∀ (L : List S79) (ys : List Int), (L.foldl (fun vs a => vs ++ [gv vs a]) ys).length = ys.length + L.length := by
    intro L
    induction L with
    | nil => intro ys; rfl
    | cons a r ih => intro ys; rw [List.foldl_cons, ih]; simp; omega
  unfold gvals
  rw [h]
  simp
  omega
theorem rd_app (A B : List Int) {j : Int} (h0 : 0 ≤ j) (h : j < A.length) : rd (A ++ B) j = rd A j := by
  obtain ⟨n, rfl⟩ := Int.eq_ofNat_of_zero_le h0
  rw [rd_nat, rd_nat, List.getD_eq_getElem?_getD, List.getD_eq_getElem?_getD, List.getElem?_append_left (by omega)]
/-- What is known of a node of a right graph. -/
theorem node_bd {ins : Int} {L : List S79} (h : GOk ins L) {i : Nat} (hi : i < L.length) :
    0 ≤ ins ∧ ins ≤ 12 ∧ L.length ≤ 3000 ∧ 2 ≤ (rd_T79 L (i : Int)).f0 ∧ (rd_T79 L (i : Int)).f0 < (rd_T79 L (i : Int)).f1 ∧ (rd_T79 L (i : Int)).f1 < 2 * (ins + 1 + i) := by
  obtain ⟨h1, _, _, h4, _⟩ := h.2.2 i hi
  exact ⟨h.1.1, h.1.2, h.2.1, by omega, by omega, h4⟩
theorem half_w {x : Int} (h0 : 0 ≤ x) (h1 : x < 4611686018427387904) : wrap64 (Int.tdiv x 2) = x / 2 := by
  rw [Int.tdiv_eq_ediv_of_nonneg h0, w64 (by omega) (by omega)]
theorem par_w {x : Int} (h0 : 0 ≤ x) : Int.tmod x 2 = x % 2 := Int.tmod_eq_emod_of_nonneg h0
theorem spec_l07Vals_ev {ins : Int} {L : List S79} (h : GOk ins L) (xs : List Int) (hx : (xs.length : Int) = ins) : Ev (fun k => spec_l07Vals.f k ins L xs) (gvals L xs) := by
  have hb := h.1
  have hl := h.2.1
  have hs : ∀ i, i ≤ L.length → Ev (fun k => spec_l07Vals.l0 k (gvals (L.take i) xs) (i : Int) ins L) (gvals L xs) := by
    refine ev_loop (fun k i => spec_l07Vals.l0 k (gvals (L.take i) xs) (i : Int) ins L) L.length _ (fun i hi e => ev_step (fun k => ?_) e) (ev_step (f := fun _ => some (gvals L xs)) (fun k => ?_) (ev_some _))
    · obtain ⟨b0, b1, b2, b3, b4, b5⟩ := node_bd h hi
      have hlen := gvals_len (L.take i) xs
      rw [List.length_take, Nat.min_eq_left (by omega)] at hlen
      simp only [spec_l07Vals.l0]
      rw [half_w (x := (rd_T79 L (i : Int)).f0) (by omega) (by omega), half_w (x := (rd_T79 L (i : Int)).f1) (by omega) (by omega), par_w (x := (rd_T79 L (i : Int)).f0) (by omega), par_w (x := (rd_T79 L (i : Int)).f1) (by omega),
        if_pos (by omega), if_pos (by omega), if_pos (by omega), if_pos (by omega), if_pos (by omega), if_pos (by omega), if_pos (by omega), w64s i (by omega), gvals_succ L xs i hi]
      rfl
    · simp only [spec_l07Vals.l0]
      rw [if_neg (by omega), List.take_length]
  refine ev_eq (f := fun k => spec_l07Vals.l0 k (gvals (L.take 0) xs) ((0 : Nat) : Int) ins L) (fun k => ?_) (hs 0 (by omega))
  unfold spec_l07Vals.f
  rw [Option.bind_some, if_pos (by simp; omega)]
  rfl
theorem impl_values_ev {ins : Int} {L : List S79} (h : GOk ins L) (xs : List Int) (hx : (xs.length : Int) = ins) : Ev (fun k => impl_Graph_values.f k ins L xs) (gvals L xs) := by
  have hb := h.1
  have hl := h.2.1
  have hs : ∀ i, i ≤ L.length → Ev (fun k => impl_Graph_values.l0 k (gvals (L.take i) xs ++ List.replicate (L.length - i) 0) L (L.length : Int) (i : Int) ins L) (gvals L xs) := by
    refine ev_loop (fun k i => impl_Graph_values.l0 k (gvals (L.take i) xs ++ List.replicate (L.length - i) 0) L (L.length : Int) (i : Int) ins L) L.length _ (fun i hi e => ev_step (fun k => ?_) e) (ev_step (f := fun _ => some (gvals L xs)) (fun k => ?_) (ev_some _))
    · obtain ⟨b0, b1, b2, b3, b4, b5⟩ := node_bd h hi
      have hlen := gvals_len (L.take i) xs
      rw [List.length_take, Nat.min_eq_left (by omega)] at hlen
      have hall : (gvals (L.take i) xs ++ List.replicate (L.length - i) (0 : Int)).length = 1 + xs.length + L.length := by rw [List.length_append, hlen, List.length_replicate]; omega
      simp only [impl_Graph_values.l0]
      rw [half_w (x := (rd_T79 L (i : Int)).f0) (by omega) (by omega), half_w (x := (rd_T79 L (i : Int)).f1) (by omega) (by omega), and_one' (x := (rd_T79 L (i : Int)).f0) (by omega) (by omega), and_one' (x := (rd_T79 L (i : Int)).f1) (by omega) (by omega),
        show wrap64 (wrap64 (ins + 1) + (i : Int)) = ((1 + xs.length + i : Nat) : Int) from by rw [w64 (n := ins + 1) (by omega) (by omega), w64 (by omega) (by omega)]; omega,
        if_pos (by omega), if_pos (by omega), if_pos (by omega), if_pos (by omega), if_pos (by omega), if_pos (by omega), if_pos (by omega), if_pos (by omega), if_pos (by omega), w64s i (by omega),
        rd_app _ _ (by omega) (by omega), rd_app _ _ (by omega) (by omega), gvals_succ L xs i hi, Int.toNat_natCast]
      congr 1
      rw [List.set_append_right _ _ (by omega), hlen, Nat.sub_self, show L.length - i = (L.length - (i + 1)) + 1 from by omega, List.replicate_succ, List.set_cons_zero, List.append_assoc]
      rfl
    · simp only [impl_Graph_values.l0]
      rw [if_neg (by omega), List.take_length, Nat.sub_self]
      simp
  refine ev_eq (f := fun k => impl_Graph_values.l0 k (gvals (L.take 0) xs ++ List.replicate (L.length - 0) 0) L (L.length : Int) ((0 : Nat) : Int) ins L) (fun k => ?_) (hs 0 (by omega))
  unfold impl_Graph_values.f
  rw [show wrap64 (wrap64 (ins + 1) + (L.length : Int)) = ((1 + xs.length + L.length : Nat) : Int) from by rw [w64 (n := ins + 1) (by omega) (by omega), w64 (by omega) (by omega)]; omega,
    if_pos (by omega), if_pos (by omega), Option.bind_some, Int.toNat_natCast, if_pos (by simp; omega)]
  congr 1
  simp only [List.length_replicate]
  rw [show List.replicate (1 + xs.length + L.length) (0 : Int) = 0 :: (List.replicate xs.length 0 ++ List.replicate L.length 0) from by rw [List.replicate_append_replicate, ← List.replicate_succ]; congr 1; omega]
  rw [show 1 + xs.length = xs.length + 1 from by omega, List.drop_succ_cons, List.drop_left' (by simp), List.take_of_length_le (l := xs) (by omega)]
  rfl
/-! ### bits -/
theorem bit2 : ∀ a b : Fin 2, (Go.bits .xor .i64 (a.val : Int) (b.val : Int) = 0 ∨ Go.bits .xor .i64 (a.val : Int) (b.val : Int) = 1) ∧ (Go.bits .and .i64 (a.val : Int) (b.val : Int) = 0 ∨ Go.bits .and .i64 (a.val : Int) (b.val : Int) = 1) := by decide +kernel
theorem is01 {x : Int} (h : x = 0 ∨ x = 1) : ∃ a : Fin 2, x = (a.val : Int) := by rcases h with rfl | rfl; exact ⟨0, rfl⟩; exact ⟨1, rfl⟩
theorem xor01 {x y : Int} (hx : x = 0 ∨ x = 1) (hy : y = 0 ∨ y = 1) : Go.bits .xor .i64 x y = 0 ∨ Go.bits .xor .i64 x y = 1 := by
  obtain ⟨a, rfl⟩ := is01 hx; obtain ⟨b, rfl⟩ := is01 hy; exact (bit2 a b).1
theorem and01 {x y : Int} (hx : x = 0 ∨ x = 1) (hy : y = 0 ∨ y = 1) : Go.bits .and .i64 x y = 0 ∨ Go.bits .and .i64 x y = 1 := by
  obtain ⟨a, rfl⟩ := is01 hx; obtain ⟨b, rfl⟩ := is01 hy; exact (bit2 a b).2
theorem rd01 {vs : List Int} (h : ∀ v ∈ vs, v = 0 ∨ v = 1) (j : Int) : rd vs j = 0 ∨ rd vs j = 1 := by
  unfold rd
  by_cases hj : j.toNat < vs.length
  · rw [getD_lt vs _ _ hj]; exact h _ (List.getElem_mem hj)
  · rw [List.getD_eq_getElem?_getD, List.getElem?_eq_none (by omega)]; exact .inl rfl
theorem gbit01 {vs : List Int} (h : ∀ v ∈ vs, v = 0 ∨ v = 1) (w : Int) : gbit vs w = 0 ∨ gbit vs w = 1 := xor01 (rd01 h _) (by omega)
theorem gvals01 (L : List S79) {xs : List Int} (h : ∀ v ∈ xs, v = 0 ∨ v = 1) : ∀ v ∈ gvals L xs, v = 0 ∨ v = 1 := by
  have hh : ∀ (L : List S79) (ys : List Int), (∀ v ∈ ys, v = 0 ∨ v = 1) → ∀ v ∈ L.foldl (fun vs a => vs ++ [gv vs a]) ys, v = 0 ∨ v = 1 := by
    intro L
    induction L with
    | nil => intro ys hy; exact hy
    | cons a r ih =>
      intro ys hy
      rw [List.foldl_cons]
      refine ih _ fun v hv => ?_
      rcases List.mem_append.1 hv with hv | hv
      · exact hy v hv
      · rw [List.mem_singleton.1 hv]
        exact and01 (gbit01 hy _) (gbit01 hy _)
  refine hh L _ fun v hv => ?_
  rcases List.mem_cons.1 hv with rfl | hv
  · exact .inl rfl
  · exact h v hv
theorem all_isBit {xs : List Int} (h : xs.all isBit = true) : ∀ v ∈ xs, v = 0 ∨ v = 1 := by
  intro v hv
  have := List.all_eq_true.1 h v hv
  unfold isBit at this
  simpa using this
/-! ### wires -/
def wireB (ins : Int) (n : Nat) (w : Int) : Bool := decide (0 ≤ w ∧ w ≤ 2 * (ins + n) + 1)
theorem in01' (x a b : Int) : spec_l01In.f x a b = some (decide (a ≤ x ∧ x ≤ b)) := by
  unfold spec_l01In.f
  by_cases h : x ≥ a
  · rw [if_pos h]; simp [h]
  · rw [if_neg h]; simp [h]
theorem within' (x a b : Int) : impl_within.f x a b = some (decide (a ≤ x ∧ x ≤ b)) := by
  unfold impl_within.f
  by_cases h : x ≥ a
  · rw [if_pos h]; simp [h]
  · rw [if_neg h]; simp [h]
theorem isWire_eq {ins : Int} {L : List S79} (h : GOk ins L) (w : Int) : impl_Graph_isWire.f ins L w = some (wireB ins L.length w) := by
  have hb := h.1
  have hl := h.2.1
  unfold impl_Graph_isWire.f impl_Graph_wires.f wireB
  rw [Option.bind_some, w64 (n := ins + 1) (by omega) (by omega), w64 (n := ins + 1 + (L.length : Int)) (by omega) (by omega), w64 (n := 2 * (ins + 1 + (L.length : Int))) (by omega) (by omega), w64 (by omega) (by omega), within', Option.bind_some]
  congr 1
  exact decide_eq_decide.2 (by omega)
theorem l07Wire_eq {ins : Int} {L : List S79} (h : GOk ins L) (w : Int) : spec_l07Wire.f ins L w = some (wireB ins L.length w) := by
  have hb := h.1
  have hl := h.2.1
  unfold spec_l07Wire.f wireB
  rw [w64 (n := ins + (L.length : Int)) (by omega) (by omega), w64 (n := 2 * (ins + (L.length : Int))) (by omega) (by omega), w64 (by omega) (by omega), in01', Option.bind_some]
end Go.Proofs.Yteagogcpbcickaa.Pure
/- The program's GraphSize and the reference's. Conditions: lengths fit, numbers are int's. -/
set_option linter.unusedSimpArgs false
set_option linter.unusedVariables false
namespace Go.Proofs.Yteagogcpbcickaa.Pure
open Go.RowKit Go.Proofs.Yteagogcpbcickaa.G Go.Proofs.YteagogcpbcickaaW.PrintWords Go.Proofs.YteagogcpbcickaaW.PrintLast Go.Proofs.YteagogcpbcickaaW.PrintMore

theorem wrap_sub {x ins : Int} (h0 : 0 ≤ x) (h1 : x < 4611686018427387904) (hb : 0 ≤ ins ∧ ins ≤ 12) : wrap64 (wrap64 (x - ins) - 1) = x - ins - 1 := by
  rw [w64 (n := x - ins) (by omega) (by omega), w64 (by omega) (by omega)]
/-- A node is marked where it is none of the first. -/
def mk1 (ins : Int) (w : Int) (y : List Bool) : List Bool := if w / 2 - ins - 1 ≥ 0 then y.set (w / 2 - ins - 1).toNat true else y
theorem mk1_len (ins w : Int) (y : List Bool) : (mk1 ins w y).length = y.length := by unfold mk1; split <;> simp
def gsz (ins : Int) (L : List S79) : Nat → List Bool → Int → Int
  | 0, _, c => c
  | d + 1, y, c => if y.getD d false = true then gsz ins L d (mk1 ins (rd_T79 L (d : Int)).f1 (mk1 ins (rd_T79 L (d : Int)).f0 y)) (c + 1) else gsz ins L d y c
theorem spec_size_loop {ins : Int} {L : List S79} (h : GOk ins L) : ∀ (d : Nat) (y : List Bool) (c : Int), d ≤ L.length → y.length = L.length → 0 ≤ c → c + d ≤ 3000 → Ev (fun k => spec_GraphSize.l1 k y c ((d : Int) - 1) ins L) (gsz ins L d y c) := by
  have hb := h.1
  have hl := h.2.1
  intro d
  induction d with
  | zero =>
    intro y c hd hy hc hc2
    refine ev_step (f := fun _ => some c) (fun k => ?_) (ev_some _)
    simp only [spec_GraphSize.l1]
    rw [if_neg (by omega)]
  | succ d ih =>
    intro y c hd hy hc hc2
    obtain ⟨b0, b1, b2, b3, b4, b5⟩ := node_bd h (i := d) (by omega)
    have e : ((d + 1 : Nat) : Int) - 1 = (d : Int) := by omega
    simp only [e]
    unfold gsz
    by_cases hyd : y.getD d false = true
    · rw [if_pos hyd]
      refine ev_step (fun k => ?_) (ih _ _ (by omega) (by rw [mk1_len, mk1_len, hy]) (by omega) (by omega))
      simp only [spec_GraphSize.l1, rdOf_nat]
      rw [half_w (x := (rd_T79 L (d : Int)).f0) (by omega) (by omega), half_w (x := (rd_T79 L (d : Int)).f1) (by omega) (by omega), wrap_sub (x := (rd_T79 L (d : Int)).f0 / 2) (by omega) (by omega) hb, wrap_sub (x := (rd_T79 L (d : Int)).f1 / 2) (by omega) (by omega) hb,
        if_pos (by omega), if_pos (by omega), if_pos (by omega), if_pos hyd, if_pos (by omega), w64 (n := c + 1) (by omega) (by omega), w64 (n := (d : Int) - 1) (by omega) (by omega)]
      unfold mk1
      by_cases c0 : (rd_T79 L (d : Int)).f0 / 2 - ins - 1 ≥ 0
      · rw [if_pos c0, if_pos c0, if_pos (by omega), if_pos (by omega), Option.bind_some]
        by_cases c1 : (rd_T79 L (d : Int)).f1 / 2 - ins - 1 ≥ 0
        · rw [if_pos c1, if_pos c1, if_pos (by omega), if_pos (by omega)]
        · omega
      · rw [if_neg c0, if_neg c0]
        by_cases c1 : (rd_T79 L (d : Int)).f1 / 2 - ins - 1 ≥ 0
        · rw [if_pos c1, if_pos c1, if_pos (by omega), if_pos (by omega)]
        · rw [if_neg c1, if_neg c1]
    · rw [if_neg hyd]
      refine ev_step (fun k => ?_) (ih _ _ (by omega) hy (by omega) (by omega))
      simp only [spec_GraphSize.l1, rdOf_nat]
      rw [if_pos (by omega), if_pos (by omega), if_pos (by omega), if_neg hyd, w64 (n := (d : Int) - 1) (by omega) (by omega)]
theorem set_drop (x : List Bool) (j m : Nat) (v : Bool) : (x.set j v).drop m = if m ≤ j then (x.drop m).set (j - m) v else x.drop m := by
  rw [List.drop_set]
  split
  · rw [if_neg (by omega)]
  · rw [if_pos (by omega)]
theorem impl_size_loop {ins : Int} {L : List S79} (h : GOk ins L) : ∀ (d : Nat) (x : List Bool) (c : Int), d ≤ L.length → (x.length : Int) = ins + 1 + L.length → 0 ≤ c → c + d ≤ 3000 → Ev (fun k => impl_GraphSize.l0 k x c (ins + d) ins L) (gsz ins L d (x.drop (ins + 1).toNat) c) := by
  have hb := h.1
  have hl := h.2.1
  intro d
  induction d with
  | zero =>
    intro x c hd hx hc hc2
    refine ev_step (f := fun _ => some c) (fun k => ?_) (ev_some _)
    simp only [impl_GraphSize.l0]
    rw [if_neg (by omega)]
  | succ d ih =>
    intro x c hd hx hc hc2
    obtain ⟨b0, b1, b2, b3, b4, b5⟩ := node_bd h (i := d) (by omega)
    obtain ⟨m, rfl⟩ := Int.eq_ofNat_of_zero_le hb.1
    have e : (m : Int) + ((d + 1 : Nat) : Int) = ((m + 1 + d : Nat) : Int) := by omega
    have em : ((m : Int) + 1).toNat = m + 1 := by omega
    have eg : (x.drop (m + 1)).getD d false = x.getD (m + 1 + d) false := by simp [List.getD_eq_getElem?_getD, List.getElem?_drop]
    simp only [e, em] at ih ⊢
    unfold gsz
    rw [eg]
    have ew : wrap64 (((m + 1 + d : Nat) : Int) - 1) = (m : Int) + d := by rw [w64 (by omega) (by omega)]; omega
    have ei : wrap64 (wrap64 (((m + 1 + d : Nat) : Int) - (m : Int)) - 1) = (d : Int) := by rw [w64 (n := ((m + 1 + d : Nat) : Int) - (m : Int)) (by omega) (by omega), w64 (by omega) (by omega)]; omega
    by_cases hyd : x.getD (m + 1 + d) false = true
    · rw [if_pos hyd]
      have hstep : ∀ w : Int, 2 ≤ w → w < 2 * ((m : Int) + 1 + d) → ∀ z : List Bool, (z.set (w / 2).toNat true).drop (m + 1) = mk1 (m : Int) w (z.drop (m + 1)) := by
        intro w h0 h1 z
        rw [set_drop]
        unfold mk1
        by_cases c0 : w / 2 - (m : Int) - 1 ≥ 0
        · rw [if_pos (by omega), if_pos c0]
          congr 1
          omega
        · rw [if_neg (by omega), if_neg c0]
      have := ih ((x.set ((rd_T79 L (d : Int)).f0 / 2).toNat true).set ((rd_T79 L (d : Int)).f1 / 2).toNat true) (c + 1) (by omega) (by simp; omega) (by omega) (by omega)
      rw [hstep _ (by omega) b5, hstep _ b3 (by omega)] at this
      refine ev_step (fun k => ?_) this
      simp only [impl_GraphSize.l0, rdOf_nat, ei, ew]
      rw [half_w (x := (rd_T79 L (d : Int)).f0) (by omega) (by omega), half_w (x := (rd_T79 L (d : Int)).f1) (by omega) (by omega),
        if_pos (by omega), if_pos (by omega), if_pos (by omega), if_pos hyd, if_pos (by omega), if_pos (by omega), if_pos (by omega), if_pos (by omega), if_pos (by omega), if_pos (by omega), w64 (n := c + 1) (by omega) (by omega)]
    · rw [if_neg hyd]
      refine ev_step (fun k => ?_) (ih _ _ (by omega) hx (by omega) (by omega))
      simp only [impl_GraphSize.l0, rdOf_nat, ew]
      rw [if_pos (by omega), if_pos (by omega), if_pos (by omega), if_neg hyd]
def gsize (ins : Int) (L : List S79) (w : Int) : Int := if GOk ins L ∧ wireB ins L.length w = true then gsz ins L L.length (mk1 ins w (List.replicate L.length false)) 0 else -1
theorem impl_GraphSize_ev (ins : Int) (L : List S79) (w : Int) : Ev (fun k => impl_GraphSize.f k ins L w) (gsize ins L w) := by
  have hbad : ∀ q : Int, q = -1 → Ev (fun k => impl_GraphSize.j0 k w true ins L) q := by
    intro q hq
    subst hq
    refine ev_step (f := fun _ => some (-1)) (fun k => ?_) (ev_some _)
    simp only [impl_GraphSize.j0]
    rw [if_pos trivial]
  unfold impl_GraphSize.f impl_GraphOk.f
  simp only [Option.bind_some]
  by_cases h : GOk ins L
  · simp only [decide_eq_true h, if_true, isWire_eq h, Option.bind_some]
    cases hw : wireB ins L.length w with
    | false => exact hbad _ (by unfold gsize; rw [if_neg (by rw [hw]; simp)])
    | true =>
      have hb := h.1
      have hw' := hw
      unfold wireB at hw'
      have hw' := of_decide_eq_true hw'
      have hl := h.2.1
      obtain ⟨m, rfl⟩ := Int.eq_ofNat_of_zero_le hb.1
      have hn : wrap64 (Int.tdiv (wrap64 (2 * wrap64 (wrap64 ((m : Int) + 1) + (L.length : Int)))) 2) = ((m + 1 + L.length : Nat) : Int) := by
        rw [w64 (n := (m : Int) + 1) (by omega) (by omega), w64 (n := (m : Int) + 1 + (L.length : Int)) (by omega) (by omega), w64 (n := 2 * ((m : Int) + 1 + (L.length : Int))) (by omega) (by omega), half_w (by omega) (by omega)]
        omega
      have := impl_size_loop h L.length ((List.replicate (m + 1 + L.length) false).set (w / 2).toNat true) 0 (by omega) (by rw [List.length_set, List.length_replicate]; omega) (by omega) (by omega)
      refine ev_step (f := fun k => impl_GraphSize.l0 k ((List.replicate (m + 1 + L.length) false).set (w / 2).toNat true) 0 ((m : Int) + (L.length : Nat)) (m : Int) L) (fun k => ?_) ?_
      · simp only [impl_GraphSize.j0]
        rw [if_neg (by decide)]
        unfold impl_Graph_wires.f
        rw [Option.bind_some, hn, Int.toNat_natCast, if_pos (by omega), if_pos (by omega), Option.bind_some, half_w (by omega) (by omega), if_pos (by omega), if_pos (by rw [List.length_replicate]; omega)]
        congr 1
        rw [List.length_replicate, w64 (by omega) (by omega)]
        omega
      suffices e : gsize (m : Int) L w = gsz (m : Int) L L.length (((List.replicate (m + 1 + L.length) false).set (w / 2).toNat true).drop ((m : Int) + 1).toNat) 0 by rw [e]; exact this
      unfold gsize
      rw [if_pos ⟨h, hw⟩, set_drop, show ((m : Int) + 1).toNat = m + 1 from by omega]
      unfold mk1
      rw [List.drop_replicate, show m + 1 + L.length - (m + 1) = L.length from by omega]
      by_cases c0 : w / 2 - (m : Int) - 1 ≥ 0
      · rw [if_pos c0, if_pos (show m + 1 ≤ (w / 2).toNat by omega), show (w / 2).toNat - (m + 1) = (w / 2 - (m : Int) - 1).toNat from by omega]
      · rw [if_neg c0, if_neg (show ¬ m + 1 ≤ (w / 2).toNat by omega)]
  · simp only [decide_eq_false h, if_neg (show ¬ (false = true) by decide)]
    exact hbad _ (by unfold gsize; rw [if_neg (fun hh => h hh.1)])
theorem spec_GraphSize_ev (ins : Int) (L : List S79) (hL : WfA L) (hins : (Lit.int .i64 ins).wf = true) (w : Int) : Ev (fun k => spec_GraphSize.f k ins L w) (gsize ins L w) := by
  have hbad : ∀ q : Int, q = -1 → Ev (fun k => spec_GraphSize.j0 k w true ins L) q := by
    intro q hq
    subst hq
    refine ev_step (f := fun _ => some (-1)) (fun k => ?_) (ev_some _)
    simp only [spec_GraphSize.j0]
    rw [if_pos trivial]
  unfold spec_GraphSize.f
  refine ev_bind (spec_GraphOk_ev ins L hL hins) ?_
  by_cases h : GOk ins L
  · simp only [decide_eq_true h, if_true, l07Wire_eq h, Option.bind_some]
    cases hw : wireB ins L.length w with
    | false => exact hbad _ (by unfold gsize; rw [if_neg (by rw [hw]; simp)])
    | true =>
      have hb := h.1
      have hw' := hw
      unfold wireB at hw'
      have hw' := of_decide_eq_true hw'
      have hl := h.2.1
      have hend := spec_size_loop h L.length (mk1 ins w (List.replicate L.length false)) 0 (by omega) (by rw [mk1_len]; simp) (by omega) (by omega)
      have hj2 : Ev (fun k => spec_GraphSize.j2 k (mk1 ins w (List.replicate L.length false)) 0 ins L) (gsize ins L w) := by
        unfold gsize
        rw [if_pos ⟨h, hw⟩]
        refine ev_step (fun k => ?_) hend
        simp only [spec_GraphSize.j2]
        rw [w64 (by omega) (by omega)]
      have hloop : ∀ i, i ≤ L.length → Ev (fun k => spec_GraphSize.l0 k w (List.replicate i false) (i : Int) ins L) (gsize ins L w) := by
        refine ev_loop (fun k i => spec_GraphSize.l0 k w (List.replicate i false) (i : Int) ins L) L.length _ (fun i hi e => ev_step (fun k => ?_) e) ?_
        · simp only [spec_GraphSize.l0]
          rw [if_pos (by omega), if_pos (by simp; omega), w64s i (by omega), ← List.replicate_succ']
        · refine ev_step (fun k => ?_) hj2
          simp only [spec_GraphSize.l0]
          rw [if_neg (by omega), half_w (by omega) (by omega), wrap_sub (by omega) (by omega) hb]
          unfold mk1
          by_cases c0 : w / 2 - ins - 1 ≥ 0
          · rw [if_pos (by omega), if_pos (by omega), if_pos (by simp; omega), if_pos c0]
          · rw [if_neg (by omega), if_neg c0]
      refine ev_step (fun k => ?_) (hloop 0 (by omega))
      simp only [spec_GraphSize.j0]
      rw [if_neg (by decide)]
      rfl
  · simp only [decide_eq_false h, if_neg (show ¬ (false = true) by decide)]
    exact hbad _ (by unfold gsize; rw [if_neg (fun hh => h hh.1)])
theorem FnExactGraphSize_pure : ∀ (a0_0 : Int) (l0_1 : List S116) (a1 : Int), ((Lit.int .i64 a0_0).wf = true ∧ (l0_1.length ≤ maxLen ∧ ∀ x_ ∈ l0_1, ((Lit.int .i64 x_.f0).wf = true ∧ (Lit.int .i64 x_.f1).wf = true))) → (Lit.int .i64 a1).wf = true → ∃ k, laws_FnExactGraphSize.f k a0_0 l0_1 a1 = some true := by
  intro a l w ⟨ha, hl, hw⟩ _
  refine ev_rounds ?_
  unfold laws_FnExactGraphSize.f
  simp only [szGraph_eq a l hl, Option.bind_some]
  by_cases h : (l.length : Int) > 1048576
  · simp only [if_pos h]
    exact ev_some _
  · simp only [if_neg h, if_neg (show ¬ (1048576 - (l.length : Int) < 0) by omega)]
    have hg : Ev (fun k => laws_toGraph.f k a l) (a, cvA l) := ev_ge l.length (toGraph_eq a l (by omega))
    refine ev_bind hg ?_
    refine ev_bind (spec_GraphSize_ev a (cvA l) (cvA_wf hw) ha w) ?_
    refine ev_bind hg ?_
    refine ev_bind (impl_GraphSize_ev a (cvA l) w) ?_
    simp only [if_true]
    refine ev_bind hg ?_
    refine ev_bind (ev_ge l.length (fun k hk => eqGraph_self a (cvA l) (by rw [cvA_length]; omega) k (by rw [cvA_length]; exact hk))) ?_
    simp only [if_true]
    exact ev_some _
end Go.Proofs.Yteagogcpbcickaa.Pure
/- What an argument of a law reads as, told by the print's kinds: a lemma for each shape of type. Conditions: none beyond the lemmas' own hypotheses. -/
namespace Go.Proofs.Yteagogcpbcickaa.Open
open Go.Deep Go.ChangeShapes Go.WideShapes Go.RowKit Go.Proofs.YteagogcpbcickaaW.PrintWords

/-- Whatever reads as data of type t reads by the kind d, and what is read is ok. -/
def Opens {α : Type} (P : Program) (t : TypeId) (d : Kd α) (ok : α → Prop) : Prop :=
  ∀ (H : Type) (enc : TypeId × Value → H) (w : World) (base : Nat) (spare : Nat → Bool) (held : Bool) (fuel : Nat) (cs : List Value) (x : DataW H × List MemPlace),
    DataW.trod enc P w base spare held fuel t cs = some x → ∃ a, d.K w a cs ∧ ok a

def FOpens {α : Type} (P : Program) (fs : List Field) (off : Nat) (d : Kd α) (ok : α → Prop) : Prop :=
  ∀ (H : Type) (enc : TypeId × Value → H) (w : World) (base : Nat) (spare : Nat → Bool) (held : Bool) (fuel : Nat) (cs : List Value),
    (∀ f ∈ fs, ∃ x, DataW.trod enc P w base spare held fuel f.type ((cs.drop f.offset).take (P.cellsOf f.type)) = some x) → ∃ a, d.K w a ((cs.drop off).take d.sz) ∧ ok a

theorem opens_int {P : Program} {t : TypeId} {k : IntKind} (hu : P.underlying t = some (.int k)) : Opens P t (Kd.int k) (fun a => (Lit.int k a).wf = true) := by
  intro H enc w base spare held fuel cs x h
  obtain ⟨n, rfl, _, hw⟩ := DataW.trod_int hu h
  exact ⟨n, rfl, hw⟩
theorem opens_bool {P : Program} {t : TypeId} (hu : P.underlying t = some .bool) : Opens P t Kd.bool (fun _ => True) := by
  intro H enc w base spare held fuel cs x h
  obtain ⟨n, rfl, _⟩ := DataW.trod_bool hu h
  exact ⟨n, rfl, trivial⟩
theorem opens_string {P : Program} {t : TypeId} (hu : P.underlying t = some .string) : Opens P t Kd.string (fun s => s.size ≤ maxLen) := by
  intro H enc w base spare held fuel cs x h
  obtain ⟨n, rfl, _, hw⟩ := DataW.trod_string hu h
  exact ⟨n, rfl, hw⟩
theorem list_of {α : Type} {p : Nat → α → Prop} : ∀ n, (∀ i, i < n → ∃ a, p i a) → ∃ l : List α, l.length = n ∧ ∀ i a, l[i]? = some a → p i a
  | 0, _ => ⟨[], rfl, fun i a h => by simp at h⟩
  | n + 1, h => by
    obtain ⟨l, hl, hp⟩ := list_of n (fun i hi => h i (by omega))
    obtain ⟨a, ha⟩ := h n (by omega)
    refine ⟨l ++ [a], by simp [hl], fun i b hb => ?_⟩
    rw [List.getElem?_append] at hb
    split at hb
    · exact hp i b hb
    · rename_i hi
      have e : i = n := by
        rcases Nat.lt_or_ge (i - l.length) 1 with h1 | h1
        · omega
        · rw [List.getElem?_eq_none (by simpa using h1)] at hb
          cases hb
      subst e
      rw [hl, Nat.sub_self] at hb
      cases hb
      exact ha
theorem opens_slice {α : Type} {P : Program} {t e : TypeId} {d : Kd α} {ok : α → Prop} (hu : P.underlying t = some (.slice e)) (hc : P.cellsOf e = d.sz) (h : Opens P e d ok) :
    Opens P t (Kd.slice e d) (fun l => l.length ≤ maxLen ∧ ∀ x ∈ l, ok x) := by
  intro H enc w base spare held fuel cs x hx
  rcases open_slice hu hx with ⟨rfl, rfl⟩ | ⟨a, len, cap, m, n, D, Pl, rfl, hb, hl, hm, hmm, rfl, hel⟩
  · exact ⟨[], ⟨none, 0, rfl, Nat.le_refl _, rfl, by simp, fun h => absurd h (by simp)⟩, by simp [maxLen], by simp⟩
  · have hle : len ≤ m := by rw [hmm]; split <;> omega
    have hone : ∀ i, i < len → ∃ y : α, (∃ cs', w.cells? base (a.add (i * P.cellsOf e)) (P.cellsOf e) = some cs' ∧ d.K w y cs') ∧ ok y := by
      intro i hi
      obtain ⟨cs', h1, h2⟩ := hel i (by omega)
      obtain ⟨y, hk, ho⟩ := h H enc w base spare held n cs' _ h2
      exact ⟨y, ⟨cs', h1, hk⟩, ho⟩
    obtain ⟨l, hll, hp⟩ := list_of len hone
    subst hll
    refine ⟨l, ⟨some a, cap, rfl, hl, rfl, by simp only [maxLen] at hm; omega, fun _ => ⟨a, rfl, fun j p hj => ?_⟩⟩, by omega, ?_⟩
    · obtain ⟨⟨cs', h1, hk⟩, _⟩ := hp j p hj
      refine ⟨cs', d.K_len hk, hk, fun i u hu => ?_⟩
      have hlt : i < cs'.length := by
        rcases Nat.lt_or_ge i cs'.length with h' | h'
        · exact h'
        · rw [List.getElem?_eq_none h'] at hu; cases hu
      have hlen := d.K_len hk
      obtain ⟨_, hlen2, hcell⟩ := World.cells?_some h1
      rw [hc] at hcell
      have := hcell i (by omega)
      rw [hu] at this
      rw [← Addr.add_add]
      exact this.symm ▸ rfl
    · intro x hx
      obtain ⟨i, hi, rfl⟩ := List.getElem_of_mem hx
      exact (hp i _ (List.getElem?_eq_getElem hi)).2
theorem fopens_one {α : Type} {P : Program} {f : Field} {off : Nat} {d : Kd α} {ok : α → Prop} (ho : f.offset = off) (hc : P.cellsOf f.type = d.sz) (h : Opens P f.type d ok) : FOpens P [f] off d ok := by
  intro H enc w base spare held fuel cs hx
  obtain ⟨x, hx⟩ := hx f (by simp)
  rw [ho, hc] at hx
  exact h H enc w base spare held fuel _ x hx
theorem fopens_cons {α β : Type} {P : Program} {f : Field} {fs : List Field} {off : Nat} {d : Kd α} {d' : Kd β} {ok : α → Prop} {ok' : β → Prop} (ho : f.offset = off) (hc : P.cellsOf f.type = d.sz) (h : Opens P f.type d ok)
    (hs : FOpens P fs (off + d.sz) d' ok') : FOpens P (f :: fs) off (Kd.pair d d') (fun x => ok x.1 ∧ ok' x.2) := by
  intro H enc w base spare held fuel cs hx
  obtain ⟨a, ha, hoa⟩ := fopens_one ho hc h H enc w base spare held fuel cs (fun g hg => hx g (by simp at hg; simp [hg]))
  obtain ⟨b, hb, hob⟩ := hs H enc w base spare held fuel cs (fun g hg => hx g (by simp [hg]))
  refine ⟨(a, b), ⟨_, _, ?_, ha, hb⟩, hoa, hob⟩
  show (cs.drop off).take (d.sz + d'.sz) = _
  rw [List.take_add, List.drop_drop]
theorem opens_struct {α : Type} {P : Program} {t : TypeId} {fs : Array Field} {d : Kd α} {ok : α → Prop} (hu : P.underlying t = some (.struct fs)) (hc : P.cellsOf t = d.sz) (h : FOpens P fs.toList 0 d ok) : Opens P t d ok := by
  intro H enc w base spare held fuel cs x hx
  obtain ⟨xs, n, rfl, _, hlen, hxl, hf⟩ := DataW.trod_struct hu hx
  have := h H enc w base spare held n cs (fun f hm => by
    obtain ⟨i, hi, rfl⟩ := List.getElem_of_mem hm
    have hi' : i < fs.size := by simpa using hi
    have e := hf i fs[i] (Array.getElem?_eq_getElem hi')
    rw [List.getElem?_eq_getElem (show i < xs.length by omega)] at e
    exact ⟨_, by simpa using e⟩)
  rw [List.drop_zero, List.take_of_length_le (by omega)] at this
  exact this
theorem opens_iso {α β : Type} {P : Program} {t : TypeId} {d : Kd α} {ok : α → Prop} (f : β → α) (g : α → β) (hfg : ∀ a, f (g a) = a) (h : Opens P t d ok) : Opens P t (Kd.iso d f) (fun x => ok (f x)) := by
  intro H enc w base spare held fuel cs x hx
  obtain ⟨a, ha, ho⟩ := h H enc w base spare held fuel cs x hx
  exact ⟨g a, by show d.K w (f (g a)) cs; rw [hfg]; exact ha, by show ok (f (g a)); rw [hfg]; exact ho⟩
/-- A struct's value is its cells. -/
theorem agg_of_cells {P : Program} {w : World} {r : Reach} {base : Nat} {t : TypeId} {fs : Array Field} {v : Value} {cs : List Value} (hu : P.underlying t = some (.struct fs)) (hv : Value.okWide P w r base t v) (hc : v.cells.toList = cs) : v = .agg cs.toArray := by
  obtain ⟨c, rfl, _⟩ := okWide_struct hu hv
  simp only [Value.cells] at hc
  subst hc
  simp
end Go.Proofs.Yteagogcpbcickaa.Open
/- The statement FnExactGraphSizeSaid of the law FnExactGraphSize: for every input the call returns true and its arguments read as before. Conditions: none. (Written by a program of this session: wip/gen/row.py.) -/
namespace Go.Proofs.Yteagogcpbcickaa.fnExactGraphSize
open Go.ChangeShapes Go.WideShapes Go.ChangeAt Go.RowKit Go.Proofs.Yteagogcpbcickaa.Open Go.Proofs.Yteagogcpbcickaa.G Go.Proofs.YteagogcpbcickaaW.PrintWords
open Go.ChangeMaps (open_string shut_string)
set_option linter.unusedVariables false
theorem own : ownKnob Try.prog.godebug = none := by kernel_rfl
theorem laidOut : laidOutB Try.prog = true := by kernel_rfl
set_option maxRecDepth 100000 in
theorem lifted (os : Os) (started : os.Started) (H : Type) (enc : TypeId × Value → H) :
    ReturnsInHanded {} Try.checked os 4 .any (Rows.fnExactGraphSizeSpec.pre6 enc Try.prog Try.f4 Rows.fnExactGraphSizeRow.domain false) (Rows.fnExactGraphSizeSpec.post enc Try.prog Try.f4 false true false false) := by
  refine returnsInHanded_of_change (C := Try.checked) own started (by kernel_rfl) Try.func4
    (ChangeSpec.witness6 (enc := enc) (C := Try.checked) false ⟨#[], #[.agg #[.int .i64 0, .slice none 0 0], .int .i64 0], []⟩ 8 (by kernel_rfl) (by kernel_rfl) (by kernel_rfl) (by kernel_rfl)) ?_
  intro W base args ds gs before hval0 hW hcnd _
  have hval : ∀ (j : Nat) t v, Try.f4.params[j]? = some t → args[j]? = some v → Value.okWide Try.prog W .any base t v := hval0
  have hW' := hW
  obtain ⟨p, q, hA0, hV, rfl, hfz, hnd⟩ := hW
  have hA : DataW.TrodAll enc Try.prog W 0 (fun _ => true) true Try.f4.params.toList args.toList ds p := hA0
  rw [Try.params4] at hA hval
  obtain ⟨v0, vs0, d0, ds0, p0, q0, hargs, rfl, rfl, h0, r0⟩ := trodAll_cons hA
  obtain ⟨v1, vs1, d1, ds1, p1, q1, rfl, rfl, rfl, h1, r1⟩ := trodAll_cons r0
  obtain ⟨rfl, rfl, rfl⟩ := trodAll_nil r1
  obtain rfl : args = #[v0, v1] := by cases args; simp_all
  obtain ⟨rfl, rfl⟩ := trodVars_none hV
  have k0 := h0
  have lt0 : ∀ x ∈ p0, x.block < W.heap.size := by obtain ⟨m, hm⟩ := k0; exact DataW.trod_lt m _ _ _ hm
  obtain ⟨fu0, hf0⟩ := h0
  obtain ⟨⟨a0_0, l0_1⟩, hk0, ok0⟩ := (opens_struct Try.underlying24 (by kernel_rfl) (fopens_cons rfl (by kernel_rfl) (opens_int Try.underlying3) (fopens_one rfl (by kernel_rfl) (opens_slice (d := k116) Try.underlying22 (by kernel_rfl) (show Opens Try.prog 116 k116 _ from opens_iso _ (fun y => ⟨y.1, y.2⟩) (fun _ => rfl) (opens_struct Try.underlying116 (by kernel_rfl) (fopens_cons rfl (by kernel_rfl) (opens_int Try.underlying3) (fopens_one rfl (by kernel_rfl) (opens_int Try.underlying3))))))))) _ enc W 0 _ true fu0 _ _ hf0
  generalize hcs0 : v0.cells.toList = cs0 at hk0
  obtain ⟨_, _, rfl, rfl, ⟨A0_1, c0_1, rfl, hc0_1, hr0_1⟩⟩ := hk0
  obtain rfl := agg_of_cells Try.underlying24 (hval 0 24 v0 rfl rfl) hcs0
  obtain ⟨a1, rfl, rfl, rfl, ok1⟩ := open_int Try.underlying3 (hval 1 3 v1 rfl rfl) h1
  clear hA0 hval0
  obtain ⟨k, hk⟩ := Pure.FnExactGraphSize_pure a0_0 l0_1 a1 ok0 ok1
  refine (laws_FnExactGraphSize.calls k a0_0 _ _ l0_1 a1 true W hr0_1 hc0_1 rfl hk).mono fun e W' ⟨he, bel0⟩ => ?_
  have bel : Below W.heap.size W W' := bel0
  subst he
  exact ⟨_, rfl, _, _, _, [], _, [], hW', trodAll_mk1 (shut_bool Try.underlying4 _), (trodAll_cons_mk (Below.trod laidOut (by kernel_rfl) (of_decide_eq_true (by kernel_rfl)) k0 bel lt0) (trodAll_cons_mk (shut_int Try.underlying3 ok1) trodAll_mk0)), rfl, bel.frame _, fun h => by cases h⟩
theorem over : Rows.fnExactGraphSizeRow.holds Try.pinned (OpenSpec.ofChange Rows.fnExactGraphSizeSpec) :=
  OpenClaim.holds_of_wide 4 Try.f4 rfl rfl rfl rfl rfl rfl rfl ⟨rfl, rfl, rfl, rfl, rfl⟩ rfl rfl rfl rfl rfl (by kernel_rfl) Try.func4 (by kernel_rfl)
    (of_decide_eq_true (by kernel_rfl)) (by unfold Func.isWrapper; first | (rw [if_pos (by decide +kernel)]; kernel_rfl) | (rw [if_neg (by decide +kernel)]; exact ⟨rfl, rfl⟩))
    (fun os started H enc _ => lifted os started H enc)
theorem proved : Rows.FnExactGraphSizeSaid := over
end Go.Proofs.Yteagogcpbcickaa.fnExactGraphSize
namespace Go.Proofs.Yteagogcpbcickaa
/-- The given statement. -/
theorem fnExactGraphSize_holds : Rows.FnExactGraphSizeSaid := fnExactGraphSize.proved
#print axioms fnExactGraphSize_holds
end Go.Proofs.Yteagogcpbcickaa
