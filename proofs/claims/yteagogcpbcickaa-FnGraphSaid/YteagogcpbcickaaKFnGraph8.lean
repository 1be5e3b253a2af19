-- texts of this session, merged by a program of it (wip/gen/pack.py)
import Derived.Test.YteagogcpbcickaaKFnGraph1
import Derived.Test.YteagogcpbcickaaKFnGraph2
import Derived.Test.YteagogcpbcickaaKFnGraph7
namespace Go.Proofs.Yteagogcpbcickaa.G
open Go.Proofs.Yteagogcpbcickaa.Sh Go.RowKit Go.Proofs.YteagogcpbcickaaW.PrintWords Go.Proofs.YteagogcpbcickaaW.PrintLast Go.Proofs.YteagogcpbcickaaW.PrintMore
attribute [local go_sem] max2_int min2_int max_two min_two max_three min_three max_four min_four   -- for this text's walks alone
set_option linter.unusedVariables false
set_option linter.unusedSimpArgs false
attribute [local go_sem high] eqA79
mutual
def spec_GraphOk.j0 : Nat → Bool → Int → List (S79) → Option (Bool)
  | 0, _, _, _ => none
  | k + 1, x16, x102000, x102001 => if x16 = true then (some false) else (spec_GraphOk.l0 k 0 x102000 x102001)
def spec_GraphOk.l0 : Nat → Int → Int → List (S79) → Option (Bool)
  | 0, _, _, _ => none
  | k + 1, x3, x102000, x102001 => if x3 < (x102001.length : Int) then (if 0 ≤ x3 then (if ((rd_T79 x102001 x3).f0) < 2 then (spec_GraphOk.j2 k x3 true x102000 x102001) else (if ((rd_T79 x102001 x3).f1) ≤ ((rd_T79 x102001 x3).f0) then (spec_GraphOk.j2 k x3 true x102000 x102001) else (if (wrap64 (Int.tdiv ((rd_T79 x102001 x3).f1) 2)) > (wrap64 (x102000 + x3)) then (spec_GraphOk.j2 k x3 true x102000 x102001) else (spec_GraphOk.j2 k x3 ((wrap64 (Int.tdiv ((rd_T79 x102001 x3).f1) 2)) == (wrap64 (Int.tdiv ((rd_T79 x102001 x3).f0) 2))) x102000 x102001)))) else (none)) else (some true)
def spec_GraphOk.j2 : Nat → Int → Bool → Int → List (S79) → Option (Bool)
  | 0, _, _, _, _ => none
  | k + 1, x3, x58, x102000, x102001 => if x58 = true then (some false) else (spec_GraphOk.l1 k x3 0 x102000 x102001)
def spec_GraphOk.l1 : Nat → Int → Int → Int → List (S79) → Option (Bool)
  | 0, _, _, _, _ => none
  | k + 1, x3, x6, x102000, x102001 => if x6 < x3 then (if 0 ≤ x6 then (if x6 < (x102001.length : Int) then (if 0 ≤ x3 then (if x3 < (x102001.length : Int) then (if (((rd_T79 x102001 x6).f0) == ((rd_T79 x102001 x3).f0) && (((rd_T79 x102001 x6).f1) == ((rd_T79 x102001 x3).f1))) = true then (some false) else (spec_GraphOk.l1 k x3 (wrap64 (x6 + 1)) x102000 x102001)) else (none)) else (none)) else (none)) else (none)) else (spec_GraphOk.l0 k (wrap64 (x3 + 1)) x102000 x102001)
end
def spec_GraphOk.f (k : Nat) (a0_0 : Int) (l0_1 : List (S79)) : Option (Bool) := (spec_l01In.f a0_0 0 12).bind fun t102 => (if t102 = true then (spec_GraphOk.j0 k (decide ((l0_1.length : Int) > 3000)) a0_0 l0_1) else (spec_GraphOk.j0 k true a0_0 l0_1))
set_option maxHeartbeats 80000000 in
set_option maxRecDepth 100000 in
theorem spec_GraphOk.calls (k : Nat) (a0_0 : Int) (A0_1 : Option Addr) (c0_1 : Nat) (l0_1 : List (S79)) (r : Bool) (w : World) (hr0_1 : Kd.C k79 w A0_1 l0_1.length l0_1) (hc0_1 : l0_1.length ≤ c0_1) (h : spec_GraphOk.f k a0_0 l0_1 = some r) :
  Calls Try.prog 16 #[.agg #[.int .i64 a0_0, .slice A0_1 l0_1.length c0_1]] w fun e w' => e = .returned (.bool r) ∧ Below w.heap.size w w' := by
 have hu29 := Try.underlying29; have hu79 := Try.underlying79; have HR0_1 := Aside0.mk hr0_1; have HC0_1 := Aside0.mk hc0_1; clear hr0_1 hc0_1; have HB := Aside0.mk (Below.refl w.heap.size w)
 have H : ((spec_l01In.f a0_0 0 12).bind fun t102 => (if t102 = true then (spec_GraphOk.j0 k (decide ((l0_1.length : Int) > 3000)) a0_0 l0_1) else (spec_GraphOk.j0 k true a0_0 l0_1))) = some r := h
 clear h; have HC2 := Aside0.mk H; clear H
 go_enter Try.func16, Try.ntmps16
 go_upto_region 1 with (first | ((with_reducible refine gate_dst (N := 1) rfl ?_); (try (refine gate_guard (by rfl) ?_; dsimp only)); refine box_event ?hg (N := 1) ?hd (cs := #[.int .i64 a0_0, .slice A0_1 l0_1.length c0_1]) (t := 29) ?hr ?_; (case hd => rfl); (case hg => rfl); (case hr => first | (go_simp; done) | (go_simp; rfl)); intro gb101 hg w3 hbox hb; have n0_ := bs0 HB hb; have n1_ := Aside0.mk (hbox); have n2_ := bz0 hg HB; have n3_ := bz0 hg HB; clear HB; have HB := n0_; have BK101 := n1_; have GW101 := n2_; have GE101 := n3_; clear n0_ n1_ n2_ n3_; clear hb hbox hg))
 repeat (go_quiet (first | ((with_reducible refine gate_dst (N := 1) rfl ?_); (try (refine gate_guard (by rfl) ?_; dsimp only)); refine box_event ?hg (N := 1) ?hd (cs := #[.int .i64 a0_0, .slice A0_1 l0_1.length c0_1]) (t := 29) ?hr ?_; (case hd => rfl); (case hg => rfl); (case hr => first | (go_simp; done) | (go_simp; rfl)); intro gb101 hg w3 hbox hb; have n0_ := bs0 HB hb; have n1_ := Aside0.mk (hbox); have n2_ := bz0 hg HB; have n3_ := bz0 hg HB; clear HB; have HB := n0_; have BK101 := n1_; have GW101 := n2_; have GE101 := n3_; clear n0_ n1_ n2_ n3_; clear hb hbox hg)); go_upto_region 1 with (first | ((with_reducible refine gate_dst (N := 1) rfl ?_); (try (refine gate_guard (by rfl) ?_; dsimp only)); refine box_event ?hg (N := 1) ?hd (cs := #[.int .i64 a0_0, .slice A0_1 l0_1.length c0_1]) (t := 29) ?hr ?_; (case hd => rfl); (case hg => rfl); (case hr => first | (go_simp; done) | (go_simp; rfl)); intro gb101 hg w3 hbox hb; have n0_ := bs0 HB hb; have n1_ := Aside0.mk (hbox); have n2_ := bz0 hg HB; have n3_ := bz0 hg HB; clear HB; have HB := n0_; have BK101 := n1_; have GW101 := n2_; have GE101 := n3_; clear n0_ n1_ n2_ n3_; clear hb hbox hg)))
 (try simp only [Act.put, List.setIfInBounds_toArray, List.set_cons_zero, List.set_cons_succ])
 go_cut [16] (fun v16 wc => ∃ (kq : Nat) (x16_1 : Bool), v16 = .bool x16_1 ∧ Aside0 (spec_GraphOk.j0 kq x16_1 a0_0 l0_1 = some r) ∧ Aside0 (kq ≤ k) ∧ Aside0 (wc.heap[gb101]? = some (.cells #[.int .i64 a0_0, (.slice A0_1 l0_1.length c0_1)] 29 (0, 0))) ∧ Aside0 (Below w.heap.size w wc))
 case first =>
  have H := HC2.out; clear HC2
  replace H := Option.bind_eq_some_iff.mp H
  obtain ⟨t102, A40, H⟩ := H
  replace H : (if t102 = true then (spec_GraphOk.j0 k (decide ((l0_1.length : Int) > 3000)) a0_0 l0_1) else (spec_GraphOk.j0 k true a0_0 l0_1)) = some r := H
  have A4 := Aside0.mk A40; clear A40
  by_cases c5 : t102 = true
  ·subst c5
   have H1 : (spec_GraphOk.j0 k (decide ((l0_1.length : Int) > 3000)) a0_0 l0_1) = some r := by rw [if_pos rfl] at H; exact H
   clear H; have H := H1; clear H1
   have H' := Aside0.mk H
   clear H; have hcz6_0 : w3.cell? ⟨gb101, 0, none⟩ = some (.int .i64 a0_0) := (blk_cell BK101.out 0).trans rfl; have hcz6_1 : w3.cell? ⟨gb101, 1, none⟩ = some (.slice A0_1 l0_1.length c0_1) := (blk_cell BK101.out 1).trans rfl; have hfz6_0 := blk_frozen BK101.out 0; have hfz6_1 := blk_frozen BK101.out 1
   go_wp2_with (first | (go_at_call 58; (try simp only [i64_w, i32_w]); (with_reducible refine (spec_l01In.calls a0_0 0 12 true _ A4.out).mono ?_); rintro e w' ⟨rfl, ⟨nd, rfl⟩⟩; (try first | exact ⟨rfl, _, World.drewN_drewN _ _ _⟩ | exact ⟨rfl, _, Eq.trans (World.drewN_drewN _ _ _) (congrArg (World.drewN _) (Nat.add_assoc _ _ _))⟩)))
   repeat (go_quiet (first | (go_at_call 58; (try simp only [i64_w, i32_w]); (with_reducible refine (spec_l01In.calls a0_0 0 12 true _ A4.out).mono ?_); rintro e w' ⟨rfl, ⟨nd, rfl⟩⟩; (try first | exact ⟨rfl, _, World.drewN_drewN _ _ _⟩ | exact ⟨rfl, _, Eq.trans (World.drewN_drewN _ _ _) (congrArg (World.drewN _) (Nat.add_assoc _ _ _))⟩))); try go_wp2_with (first | (go_at_call 58; (try simp only [i64_w, i32_w]); (with_reducible refine (spec_l01In.calls a0_0 0 12 true _ A4.out).mono ?_); rintro e w' ⟨rfl, ⟨nd, rfl⟩⟩; (try first | exact ⟨rfl, _, World.drewN_drewN _ _ _⟩ | exact ⟨rfl, _, Eq.trans (World.drewN_drewN _ _ _) (congrArg (World.drewN _) (Nat.add_assoc _ _ _))⟩))))
   go_meet
   case rel => exact ⟨_, (decide ((l0_1.length : Int) > 3000)), (by first | rfl | (simp; done) | (simp [*]; done)), H', ⟨by first | omega | exact Nat.le_refl _⟩, ⟨by (with_reducible repeat (first | refine blk_drewN ?_ _ | refine blk_drew ?_ | refine blk_alloc ?_ _)); exact BK101.out⟩, ⟨by repeat (first | (with_reducible first | exact HB.out | apply below_alloc | apply pw_below_drewN | apply below_drew1 | refine below_set ?_ GE101.out) | exact HB.out)⟩⟩
  ·replace c5 := Bool.eq_false_iff.mpr c5
   subst c5
   have H1 : (spec_GraphOk.j0 k true a0_0 l0_1) = some r := by rw [if_neg (show ¬ (false = true) by decide)] at H; exact H
   clear H; have H := H1; clear H1
   have H' := Aside0.mk H
   clear H; have hcz7_0 : w3.cell? ⟨gb101, 0, none⟩ = some (.int .i64 a0_0) := (blk_cell BK101.out 0).trans rfl; have hcz7_1 : w3.cell? ⟨gb101, 1, none⟩ = some (.slice A0_1 l0_1.length c0_1) := (blk_cell BK101.out 1).trans rfl; have hfz7_0 := blk_frozen BK101.out 0; have hfz7_1 := blk_frozen BK101.out 1
   go_wp2_with (first | (go_at_call 58; (try simp only [i64_w, i32_w]); (with_reducible refine (spec_l01In.calls a0_0 0 12 false _ A4.out).mono ?_); rintro e w' ⟨rfl, ⟨nd, rfl⟩⟩; (try first | exact ⟨rfl, _, World.drewN_drewN _ _ _⟩ | exact ⟨rfl, _, Eq.trans (World.drewN_drewN _ _ _) (congrArg (World.drewN _) (Nat.add_assoc _ _ _))⟩)))
   repeat (go_quiet (first | (go_at_call 58; (try simp only [i64_w, i32_w]); (with_reducible refine (spec_l01In.calls a0_0 0 12 false _ A4.out).mono ?_); rintro e w' ⟨rfl, ⟨nd, rfl⟩⟩; (try first | exact ⟨rfl, _, World.drewN_drewN _ _ _⟩ | exact ⟨rfl, _, Eq.trans (World.drewN_drewN _ _ _) (congrArg (World.drewN _) (Nat.add_assoc _ _ _))⟩))); try go_wp2_with (first | (go_at_call 58; (try simp only [i64_w, i32_w]); (with_reducible refine (spec_l01In.calls a0_0 0 12 false _ A4.out).mono ?_); rintro e w' ⟨rfl, ⟨nd, rfl⟩⟩; (try first | exact ⟨rfl, _, World.drewN_drewN _ _ _⟩ | exact ⟨rfl, _, Eq.trans (World.drewN_drewN _ _ _) (congrArg (World.drewN _) (Nat.add_assoc _ _ _))⟩))))
   go_meet
   case rel => exact ⟨_, (true), (by first | rfl | (simp; done) | (simp [*]; done)), H', ⟨by first | omega | exact Nat.le_refl _⟩, ⟨by (with_reducible repeat (first | refine blk_drewN ?_ _ | refine blk_drew ?_ | refine blk_alloc ?_ _)); exact BK101.out⟩, ⟨by repeat (first | (with_reducible first | exact HB.out | apply below_alloc | apply pw_below_drewN | apply below_drew1 | refine below_set ?_ GE101.out) | exact HB.out)⟩⟩
 case rest =>
  clear HC2
  (try clear c1); (try clear p2); (try clear c5); (try clear hcz6_0); (try clear hcz6_1); (try clear hcz7_0); (try clear hcz7_1); (try clear hfz6_0); (try clear hfz6_1); (try clear hfz7_0); (try clear hfz7_1)
  obtain ⟨kq, x16_1, rfl, HA, HJ1, BK101, HB⟩ := hcut
  cases kq with
    | zero => exact absurd HA.out (by simp [spec_GraphOk.j0])
    | succ kj1 =>
   have H := HA.out; clear HA
   simp only [spec_GraphOk.j0] at H
   by_cases c8 : x16_1 = true
   ·subst c8
    have H1 : (some false) = some r := by rw [if_pos rfl] at H; exact H
    clear H; have H := H1; clear H1
    obtain rfl := Option.some.inj H
    go_wp2
    repeat (go_quiet (fail); try go_wp2)
    go_ret
    exact ⟨by first | rfl | (simp [errW_none, errW_some] <;> rfl) | (simp [*, errW_none, errW_some] <;> rfl), by repeat (first | (with_reducible first | exact HB.out | apply below_alloc | apply pw_below_drewN | apply below_drew1 | refine below_set ?_ GE101.out) | exact HB.out)⟩
   ·replace c8 := Bool.eq_false_iff.mpr c8
    subst c8
    have H1 : (spec_GraphOk.l0 kj1 0 a0_0 l0_1) = some r := by rw [if_neg (show ¬ (false = true) by decide)] at H; exact H
    clear H; have H := H1; clear H1
    have H' := Aside0.mk H
    clear H
    go_wp2
    repeat (go_quiet (fail); try go_wp2)
    go_loopg [3] kj1 (fun kq v3 w' => ∃ (x3_2 : Int), v3 = .int .i64 x3_2 ∧ Aside0 (spec_GraphOk.l0 kq x3_2 a0_0 l0_1 = some r) ∧ Aside0 (kq ≤ kj1) ∧ Aside0 (w'.heap[gb101]? = some (.cells #[.int .i64 a0_0, (.slice A0_1 l0_1.length c0_1)] 29 (0, 0))) ∧ Aside0 (Below w.heap.size w w'))
    case atStart => exact ⟨(0), (by first | rfl | (simp; done) | (simp [*]; done)), H', ⟨Nat.le_refl _⟩, ⟨by (with_reducible repeat (first | refine blk_drewN ?_ _ | refine blk_drew ?_ | refine blk_alloc ?_ _)); exact BK101.out⟩, ⟨by repeat (first | (with_reducible first | exact HB.out | apply below_alloc | apply pw_below_drewN | apply below_drew1 | refine below_set ?_ GE101.out) | exact HB.out)⟩⟩
    case round =>
     clear H'
     (try clear c1); (try clear p2); (try clear c5); (try clear c8); (try clear hcz6_0); (try clear hcz6_1); (try clear hcz7_0); (try clear hcz7_1); (try clear hfz6_0); (try clear hfz6_1); (try clear hfz7_0); (try clear hfz7_1); (try clear p2)
     obtain ⟨x3_2, rfl, HA, HK2, BK101, HB⟩ := hrel
     cases gk with
          | zero => exact absurd HA.out (by simp [spec_GraphOk.l0])
          | succ k2 =>
      have H := HA.out; clear HA
      simp only [spec_GraphOk.l0] at H
      by_cases c9 : x3_2 < (l0_1.length : Int)
      ·rw [if_pos c9] at H
       have c9b0 : decide (x3_2 < (l0_1.length : Int)) = true := decide_eq_true c9; clear c9
       by_cases c10 : 0 ≤ x3_2
       ·rw [if_pos c10] at H
        have c10b0 : decide (0 ≤ x3_2) = true := decide_eq_true c10; clear c10; have HC11 := Aside0.mk H; clear H; have hcz12_0 : wr.cell? ⟨gb101, 0, none⟩ = some (.int .i64 a0_0) := (blk_cell BK101.out 0).trans rfl; have hcz12_1 : wr.cell? ⟨gb101, 1, none⟩ = some (.slice A0_1 l0_1.length c0_1) := (blk_cell BK101.out 1).trans rfl; have hfz12_0 := blk_frozen BK101.out 0; have hfz12_1 := blk_frozen BK101.out 1
        have p103 : 0 ≤ (x3_2 : Int) := of_decide_eq_true (by first | (with_reducible assumption) | assumption)
        have q103 : x3_2 < (l0_1.length : Int) := of_decide_eq_true (by first | (with_reducible assumption) | assumption)
        obtain ⟨ad103, e103, hx103_0, hx103_1⟩ := at_T79 HR0_1.out x3_2 p103 q103
        cases e103
        replace hx103_0 := (HB.out.cell (World.block_lt_of_cell? w _ hx103_0)).trans hx103_0
        replace hx103_1 := (HB.out.cell (World.block_lt_of_cell? w _ hx103_1)).trans hx103_1
        replace p103 := eq_true p103
        replace q103 := eq_true q103
        have p104 : 0 ≤ (x3_2 : Int) := of_decide_eq_true (by first | (with_reducible assumption) | assumption)
        have q104 : x3_2 < (l0_1.length : Int) := of_decide_eq_true (by first | (with_reducible assumption) | assumption)
        obtain ⟨ad104, e104, hx104_0, hx104_1⟩ := at_T79 HR0_1.out x3_2 p104 q104
        obtain rfl : ad103 = ad104 := (by injection e104)
        replace hx104_0 := (HB.out.cell (World.block_lt_of_cell? w _ hx104_0)).trans hx104_0
        replace hx104_1 := (HB.out.cell (World.block_lt_of_cell? w _ hx104_1)).trans hx104_1
        replace p104 := eq_true p104
        replace q104 := eq_true q104
        go_upto_region 7 with (fail)
        repeat (go_quiet (fail); go_upto_region 7 with (fail))
        go_cut [58] (fun v58 wc => ∃ (kq : Nat) (x58_10 : Bool), v58 = .bool x58_10 ∧ Aside0 (spec_GraphOk.j2 kq x3_2 x58_10 a0_0 l0_1 = some r) ∧ Aside0 (kq ≤ k2) ∧ Aside0 (wc.heap[gb101]? = some (.cells #[.int .i64 a0_0, (.slice (some ad103) l0_1.length c0_1)] 29 (0, 0))) ∧ Aside0 (Below w.heap.size w wc))
        case first =>
         have H := HC11.out; clear HC11
         by_cases c13 : ((rd_T79 l0_1 x3_2).f0) < 2
         ·rw [if_pos c13] at H
          have c13b0 : decide (((rd_T79 l0_1 x3_2).f0) < 2) = true := decide_eq_true c13; clear c13
          (first | rw [c13b0] | (simp only [i64_w, i32_w]; rw [c13b0]) | skip)
          have H' := Aside0.mk H
          clear H
          go_wp2
          repeat (go_quiet (fail); try go_wp2)
          go_meet
          case rel => exact ⟨_, (true), (by first | rfl | (simp; done) | (simp [*]; done)), H', ⟨by have := HJ1.out; have := HK2.out; first | omega | exact Nat.le_refl _⟩, ⟨by (with_reducible repeat (first | refine blk_drewN ?_ _ | refine blk_drew ?_ | refine blk_alloc ?_ _)); exact BK101.out⟩, ⟨by repeat (first | (with_reducible first | exact HB.out | apply below_alloc | apply pw_below_drewN | apply below_drew1 | refine below_set ?_ GE101.out) | exact HB.out)⟩⟩
         ·rw [if_neg c13] at H
          have c13b0 : decide (((rd_T79 l0_1 x3_2).f0) < 2) = false := decide_eq_false c13; clear c13
          (first | rw [c13b0] | (simp only [i64_w, i32_w]; rw [c13b0]) | skip)
          by_cases c14 : ((rd_T79 l0_1 x3_2).f1) ≤ ((rd_T79 l0_1 x3_2).f0)
          ·rw [if_pos c14] at H
           have c14b0 : decide (((rd_T79 l0_1 x3_2).f1) ≤ ((rd_T79 l0_1 x3_2).f0)) = true := decide_eq_true c14; clear c14
           have H' := Aside0.mk H
           clear H
           go_wp2
           repeat (go_quiet (fail); try go_wp2)
           go_meet
           case rel => exact ⟨_, (true), (by first | rfl | (simp; done) | (simp [*]; done)), H', ⟨by have := HJ1.out; have := HK2.out; first | omega | exact Nat.le_refl _⟩, ⟨by (with_reducible repeat (first | refine blk_drewN ?_ _ | refine blk_drew ?_ | refine blk_alloc ?_ _)); exact BK101.out⟩, ⟨by repeat (first | (with_reducible first | exact HB.out | apply below_alloc | apply pw_below_drewN | apply below_drew1 | refine below_set ?_ GE101.out) | exact HB.out)⟩⟩
          ·rw [if_neg c14] at H
           have c14b0 : decide (((rd_T79 l0_1 x3_2).f1) ≤ ((rd_T79 l0_1 x3_2).f0)) = false := decide_eq_false c14; clear c14
           by_cases c15 : (wrap64 (Int.tdiv ((rd_T79 l0_1 x3_2).f1) 2)) > (wrap64 (a0_0 + x3_2))
           ·rw [if_pos c15] at H
            have c15b0 : decide ((wrap64 (a0_0 + x3_2)) < (wrap64 (Int.tdiv ((rd_T79 l0_1 x3_2).f1) 2))) = true := decide_eq_true c15; clear c15
            have H' := Aside0.mk H
            clear H; have hcz16_0 : wr.cell? ⟨gb101, 0, none⟩ = some (.int .i64 a0_0) := (blk_cell BK101.out 0).trans rfl; have hcz16_1 : wr.cell? ⟨gb101, 1, none⟩ = some (.slice (some ad103) l0_1.length c0_1) := (blk_cell BK101.out 1).trans rfl; have hfz16_0 := blk_frozen BK101.out 0; have hfz16_1 := blk_frozen BK101.out 1
            go_wp2
            repeat (go_quiet (fail); try go_wp2)
            go_meet
            case rel => exact ⟨_, (true), (by first | rfl | (simp; done) | (simp [*]; done)), H', ⟨by have := HJ1.out; have := HK2.out; first | omega | exact Nat.le_refl _⟩, ⟨by (with_reducible repeat (first | refine blk_drewN ?_ _ | refine blk_drew ?_ | refine blk_alloc ?_ _)); exact BK101.out⟩, ⟨by repeat (first | (with_reducible first | exact HB.out | apply below_alloc | apply pw_below_drewN | apply below_drew1 | refine below_set ?_ GE101.out) | exact HB.out)⟩⟩
           ·rw [if_neg c15] at H
            have c15b0 : decide ((wrap64 (a0_0 + x3_2)) < (wrap64 (Int.tdiv ((rd_T79 l0_1 x3_2).f1) 2))) = false := decide_eq_false c15; clear c15
            have H' := Aside0.mk H
            clear H; have hcz17_0 : wr.cell? ⟨gb101, 0, none⟩ = some (.int .i64 a0_0) := (blk_cell BK101.out 0).trans rfl; have hcz17_1 : wr.cell? ⟨gb101, 1, none⟩ = some (.slice (some ad103) l0_1.length c0_1) := (blk_cell BK101.out 1).trans rfl; have hfz17_0 := blk_frozen BK101.out 0; have hfz17_1 := blk_frozen BK101.out 1
            go_wp2
            repeat (go_quiet (fail); try go_wp2)
            go_meet
            case rel => exact ⟨_, (((wrap64 (Int.tdiv ((rd_T79 l0_1 x3_2).f1) 2)) == (wrap64 (Int.tdiv ((rd_T79 l0_1 x3_2).f0) 2)))), (by first | rfl | (simp; done) | (simp [*]; done)), H', ⟨by have := HJ1.out; have := HK2.out; first | omega | exact Nat.le_refl _⟩, ⟨by (with_reducible repeat (first | refine blk_drewN ?_ _ | refine blk_drew ?_ | refine blk_alloc ?_ _)); exact BK101.out⟩, ⟨by repeat (first | (with_reducible first | exact HB.out | apply below_alloc | apply pw_below_drewN | apply below_drew1 | refine below_set ?_ GE101.out) | exact HB.out)⟩⟩
        case rest =>
         clear HC11
         (try clear c1); (try clear p1); (try clear q1); (try clear hx1); (try clear p2); (try clear c5); (try clear p6); (try clear c8); (try clear c9); (try clear c9b0); (try clear c10); (try clear c10b0); (try clear p10); (try clear q10); (try clear hx10); (try clear c13); (try clear c13b0); (try clear c14); (try clear c14b0); (try clear c15); (try clear c15b0); (try clear c16); (try clear hcz12_0); (try clear hcz12_1); (try clear hcz16_0); (try clear hcz16_1); (try clear hcz17_0); (try clear hcz17_1); (try clear hcz6_0); (try clear hcz6_1); (try clear hcz7_0); (try clear hcz7_1); (try clear hfz12_0); (try clear hfz12_1); (try clear hfz16_0); (try clear hfz16_1); (try clear hfz17_0); (try clear hfz17_1); (try clear hfz6_0); (try clear hfz6_1); (try clear hfz7_0); (try clear hfz7_1); (try clear hx103_0); (try clear hx103_1); (try clear hx104_0); (try clear hx104_1); (try clear p103); (try clear p104); (try clear p2); (try clear q103); (try clear q104)
         obtain ⟨kq, x58_10, rfl, HA, HJ10, BK101, HB⟩ := hcut
         cases kq with
                  | zero => exact absurd HA.out (by simp [spec_GraphOk.j2])
                  | succ kj10 =>
          have H := HA.out; clear HA
          simp only [spec_GraphOk.j2] at H
          by_cases c18 : x58_10 = true
          ·subst c18
           have H1 : (some false) = some r := by rw [if_pos rfl] at H; exact H
           clear H; have H := H1; clear H1
           obtain rfl := Option.some.inj H
           go_wp2
           repeat (go_quiet (fail); try go_wp2)
           go_ret
           exact ⟨by first | rfl | (simp [errW_none, errW_some] <;> rfl) | (simp [*, errW_none, errW_some] <;> rfl), by repeat (first | (with_reducible first | exact HB.out | apply below_alloc | apply pw_below_drewN | apply below_drew1 | refine below_set ?_ GE101.out) | exact HB.out)⟩
          ·replace c18 := Bool.eq_false_iff.mpr c18
           subst c18
           have H1 : (spec_GraphOk.l1 kj10 x3_2 0 a0_0 l0_1) = some r := by rw [if_neg (show ¬ (false = true) by decide)] at H; exact H
           clear H; have H := H1; clear H1
           have H' := Aside0.mk H
           clear H
           go_wp2
           repeat (go_quiet (fail); try go_wp2)
           go_loopg [6] kj10 (fun kq v6 w' => ∃ (x6_4 : Int), v6 = .int .i64 x6_4 ∧ Aside0 (spec_GraphOk.l1 kq x3_2 x6_4 a0_0 l0_1 = some r) ∧ Aside0 (kq ≤ kj10) ∧ Aside0 (w'.heap[gb101]? = some (.cells #[.int .i64 a0_0, (.slice (some ad103) l0_1.length c0_1)] 29 (0, 0))) ∧ Aside0 (Below w.heap.size w w'))
           case atStart => exact ⟨(0), (by first | rfl | (simp; done) | (simp [*]; done)), H', ⟨Nat.le_refl _⟩, ⟨by (with_reducible repeat (first | refine blk_drewN ?_ _ | refine blk_drew ?_ | refine blk_alloc ?_ _)); exact BK101.out⟩, ⟨by repeat (first | (with_reducible first | exact HB.out | apply below_alloc | apply pw_below_drewN | apply below_drew1 | refine below_set ?_ GE101.out) | exact HB.out)⟩⟩
           case round =>
            clear H'
            (try clear c1); (try clear p1); (try clear q1); (try clear hx1); (try clear p2); (try clear c5); (try clear p6); (try clear c8); (try clear c9); (try clear c9b0); (try clear c10); (try clear c10b0); (try clear p10); (try clear q10); (try clear hx10); (try clear c13); (try clear c13b0); (try clear c14); (try clear c14b0); (try clear c15); (try clear c15b0); (try clear c16); (try clear c18); (try clear hcz12_0); (try clear hcz12_1); (try clear hcz16_0); (try clear hcz16_1); (try clear hcz17_0); (try clear hcz17_1); (try clear hcz6_0); (try clear hcz6_1); (try clear hcz7_0); (try clear hcz7_1); (try clear hfz12_0); (try clear hfz12_1); (try clear hfz16_0); (try clear hfz16_1); (try clear hfz17_0); (try clear hfz17_1); (try clear hfz6_0); (try clear hfz6_1); (try clear hfz7_0); (try clear hfz7_1); (try clear hx103_0); (try clear hx103_1); (try clear hx104_0); (try clear hx104_1); (try clear p1); (try clear p10); (try clear p103); (try clear p104); (try clear p2); (try clear p6); (try clear q1); (try clear q10); (try clear q103); (try clear q104)
            obtain ⟨x6_4, rfl, HA, HK4, BK101, HB⟩ := hrel
            cases gk with
                        | zero => exact absurd HA.out (by simp [spec_GraphOk.l1])
                        | succ k4 =>
             have H := HA.out; clear HA
             simp only [spec_GraphOk.l1] at H
             by_cases c19 : x6_4 < x3_2
             ·rw [if_pos c19] at H
              have c19b0 : decide (x6_4 < x3_2) = true := decide_eq_true c19; clear c19
              by_cases c20 : 0 ≤ x6_4
              ·rw [if_pos c20] at H
               have c20b0 : decide (0 ≤ x6_4) = true := decide_eq_true c20; clear c20
               by_cases c21 : x6_4 < (l0_1.length : Int)
               ·rw [if_pos c21] at H
                have c21b0 : decide (x6_4 < (l0_1.length : Int)) = true := decide_eq_true c21; clear c21
                by_cases c22 : 0 ≤ x3_2
                ·rw [if_pos c22] at H
                 have c22b0 : decide (0 ≤ x3_2) = true := decide_eq_true c22; clear c22
                 by_cases c23 : x3_2 < (l0_1.length : Int)
                 ·rw [if_pos c23] at H
                  have c23b0 : decide (x3_2 < (l0_1.length : Int)) = true := decide_eq_true c23; clear c23
                  by_cases c24 : (((rd_T79 l0_1 x6_4).f0) == ((rd_T79 l0_1 x3_2).f0) && (((rd_T79 l0_1 x6_4).f1) == ((rd_T79 l0_1 x3_2).f1))) = true
                  ·rw [if_pos c24] at H
                   have c24b0 : (((rd_T79 l0_1 x6_4).f0) == ((rd_T79 l0_1 x3_2).f0) && (((rd_T79 l0_1 x6_4).f1) == ((rd_T79 l0_1 x3_2).f1))) = true := c24
                   (try (have c24b1 : decide (((rd_T79 l0_1 x6_4).f0) = ((rd_T79 l0_1 x3_2).f0) && (((rd_T79 l0_1 x6_4).f1) == ((rd_T79 l0_1 x3_2).f1))) = true := by simpa using c24))
                   (try (have c24b2 : (((rd_T79 l0_1 x6_4).f0) == ((rd_T79 l0_1 x3_2).f0) && (((rd_T79 l0_1 x6_4).f1) == ((rd_T79 l0_1 x3_2).f1))) = true := by simpa using c24))
                   clear c24
                   obtain rfl := Option.some.inj H
                   have hcz25_0 : wr.cell? ⟨gb101, 0, none⟩ = some (.int .i64 a0_0) := (blk_cell BK101.out 0).trans rfl; have hcz25_1 : wr.cell? ⟨gb101, 1, none⟩ = some (.slice (some ad103) l0_1.length c0_1) := (blk_cell BK101.out 1).trans rfl; have hfz25_0 := blk_frozen BK101.out 0; have hfz25_1 := blk_frozen BK101.out 1
                   have p105 : 0 ≤ (x6_4 : Int) := of_decide_eq_true (by first | (with_reducible assumption) | assumption)
                   have q105 : x6_4 < (l0_1.length : Int) := of_decide_eq_true (by first | (with_reducible assumption) | assumption)
                   obtain ⟨ad105, e105, hx105_0, hx105_1⟩ := at_T79 HR0_1.out x6_4 p105 q105
                   obtain rfl : ad103 = ad105 := (by injection e105)
                   replace hx105_0 := (HB.out.cell (World.block_lt_of_cell? w _ hx105_0)).trans hx105_0
                   replace hx105_1 := (HB.out.cell (World.block_lt_of_cell? w _ hx105_1)).trans hx105_1
                   replace p105 := eq_true p105
                   replace q105 := eq_true q105
                   have p106 : 0 ≤ (x3_2 : Int) := of_decide_eq_true (by first | (with_reducible assumption) | assumption)
                   have q106 : x3_2 < (l0_1.length : Int) := of_decide_eq_true (by first | (with_reducible assumption) | assumption)
                   obtain ⟨ad106, e106, hx106_0, hx106_1⟩ := at_T79 HR0_1.out x3_2 p106 q106
                   obtain rfl : ad103 = ad106 := (by injection e106)
                   replace hx106_0 := (HB.out.cell (World.block_lt_of_cell? w _ hx106_0)).trans hx106_0
                   replace hx106_1 := (HB.out.cell (World.block_lt_of_cell? w _ hx106_1)).trans hx106_1
                   replace p106 := eq_true p106
                   replace q106 := eq_true q106
                   go_wp2
                   repeat (go_quiet (fail); try go_wp2)
                   go_ret
                   exact ⟨by first | rfl | (simp [errW_none, errW_some] <;> rfl) | (simp [*, errW_none, errW_some] <;> rfl), by repeat (first | (with_reducible first | exact HB.out | apply below_alloc | apply pw_below_drewN | apply below_drew1 | refine below_set ?_ GE101.out) | exact HB.out)⟩
                  ·rw [if_neg c24] at H
                   have c24b0 : (((rd_T79 l0_1 x6_4).f0) == ((rd_T79 l0_1 x3_2).f0) && (((rd_T79 l0_1 x6_4).f1) == ((rd_T79 l0_1 x3_2).f1))) = false := by simpa using c24
                   (try (have c24b1 : decide (((rd_T79 l0_1 x6_4).f0) = ((rd_T79 l0_1 x3_2).f0) && (((rd_T79 l0_1 x6_4).f1) == ((rd_T79 l0_1 x3_2).f1))) = false := by simpa using c24))
                   (try (have c24b2 : (((rd_T79 l0_1 x6_4).f0) == ((rd_T79 l0_1 x3_2).f0) && (((rd_T79 l0_1 x6_4).f1) == ((rd_T79 l0_1 x3_2).f1))) = false := by simpa using c24))
                   (try (have c24b3 : ¬ (((rd_T79 l0_1 x6_4).f0) = ((rd_T79 l0_1 x3_2).f0) && (((rd_T79 l0_1 x6_4).f1) == ((rd_T79 l0_1 x3_2).f1))) := by simpa using c24))
                   clear c24
                   have H' := Aside0.mk H
                   clear H; have hcz26_0 : wr.cell? ⟨gb101, 0, none⟩ = some (.int .i64 a0_0) := (blk_cell BK101.out 0).trans rfl; have hcz26_1 : wr.cell? ⟨gb101, 1, none⟩ = some (.slice (some ad103) l0_1.length c0_1) := (blk_cell BK101.out 1).trans rfl; have hfz26_0 := blk_frozen BK101.out 0; have hfz26_1 := blk_frozen BK101.out 1
                   have p105 : 0 ≤ (x6_4 : Int) := of_decide_eq_true (by first | (with_reducible assumption) | assumption)
                   have q105 : x6_4 < (l0_1.length : Int) := of_decide_eq_true (by first | (with_reducible assumption) | assumption)
                   obtain ⟨ad105, e105, hx105_0, hx105_1⟩ := at_T79 HR0_1.out x6_4 p105 q105
                   obtain rfl : ad103 = ad105 := (by injection e105)
                   replace hx105_0 := (HB.out.cell (World.block_lt_of_cell? w _ hx105_0)).trans hx105_0
                   replace hx105_1 := (HB.out.cell (World.block_lt_of_cell? w _ hx105_1)).trans hx105_1
                   replace p105 := eq_true p105
                   replace q105 := eq_true q105
                   have p106 : 0 ≤ (x3_2 : Int) := of_decide_eq_true (by first | (with_reducible assumption) | assumption)
                   have q106 : x3_2 < (l0_1.length : Int) := of_decide_eq_true (by first | (with_reducible assumption) | assumption)
                   obtain ⟨ad106, e106, hx106_0, hx106_1⟩ := at_T79 HR0_1.out x3_2 p106 q106
                   obtain rfl : ad103 = ad106 := (by injection e106)
                   replace hx106_0 := (HB.out.cell (World.block_lt_of_cell? w _ hx106_0)).trans hx106_0
                   replace hx106_1 := (HB.out.cell (World.block_lt_of_cell? w _ hx106_1)).trans hx106_1
                   replace p106 := eq_true p106
                   replace q106 := eq_true q106
                   go_wp2
                   repeat (go_quiet (fail); try go_wp2)
                   go_roundg k4
                   case measure => have := HJ1.out; have := HK2.out; have := HJ10.out; have := HK4.out; omega
                   case rel => exact ⟨(wrap64 (x6_4 + 1)), (by first | rfl | (simp; done) | (simp [*]; done)), H', ⟨by have := HJ1.out; have := HK2.out; have := HJ10.out; have := HK4.out; omega⟩, ⟨by (with_reducible repeat (first | refine blk_drewN ?_ _ | refine blk_drew ?_ | refine blk_alloc ?_ _)); exact BK101.out⟩, ⟨by repeat (first | (with_reducible first | exact HB.out | apply below_alloc | apply pw_below_drewN | apply below_drew1 | refine below_set ?_ GE101.out) | exact HB.out)⟩⟩
                 ·rw [if_neg c23] at H
                  exact absurd H (by simp)
                ·rw [if_neg c22] at H
                 exact absurd H (by simp)
               ·rw [if_neg c21] at H
                exact absurd H (by simp)
              ·rw [if_neg c20] at H
               exact absurd H (by simp)
             ·rw [if_neg c19] at H
              have c19b0 : decide (x6_4 < x3_2) = false := decide_eq_false c19; clear c19
              have H' := Aside0.mk H
              clear H
              go_wp2
              repeat (go_quiet (fail); try go_wp2)
              go_roundg k4
              case measure => have := HJ1.out; have := HK2.out; have := HJ10.out; have := HK4.out; omega
              case rel => exact ⟨(wrap64 (x3_2 + 1)), (by first | rfl | (simp; done) | (simp [*]; done)), H', ⟨by have := HJ1.out; have := HK2.out; have := HJ10.out; have := HK4.out; omega⟩, ⟨by (with_reducible repeat (first | refine blk_drewN ?_ _ | refine blk_drew ?_ | refine blk_alloc ?_ _)); exact BK101.out⟩, ⟨by repeat (first | (with_reducible first | exact HB.out | apply below_alloc | apply pw_below_drewN | apply below_drew1 | refine below_set ?_ GE101.out) | exact HB.out)⟩⟩
       ·rw [if_neg c10] at H
        exact absurd H (by simp)
      ·rw [if_neg c9] at H
       have c9b0 : decide (x3_2 < (l0_1.length : Int)) = false := decide_eq_false c9; clear c9
       obtain rfl := Option.some.inj H
       have hcz27_0 : wr.cell? ⟨gb101, 0, none⟩ = some (.int .i64 a0_0) := (blk_cell BK101.out 0).trans rfl; have hcz27_1 : wr.cell? ⟨gb101, 1, none⟩ = some (.slice A0_1 l0_1.length c0_1) := (blk_cell BK101.out 1).trans rfl; have hfz27_0 := blk_frozen BK101.out 0; have hfz27_1 := blk_frozen BK101.out 1
       go_wp2
       repeat (go_quiet (fail); try go_wp2)
       go_ret
       exact ⟨by first | rfl | (simp [errW_none, errW_some] <;> rfl) | (simp [*, errW_none, errW_some] <;> rfl), by repeat (first | (with_reducible first | exact HB.out | apply below_alloc | apply pw_below_drewN | apply below_drew1 | refine below_set ?_ GE101.out) | exact HB.out)⟩
end Go.Proofs.Yteagogcpbcickaa.G
namespace Go.Proofs.Yteagogcpbcickaa.G
open Go.RowKit Go.Proofs.YteagogcpbcickaaW.PrintWords Go.Proofs.YteagogcpbcickaaW.PrintLast Go.Proofs.YteagogcpbcickaaW.PrintMore
attribute [local go_sem] max2_int min2_int max_two min_two max_three min_three max_four min_four   -- for this text's walks alone
set_option linter.unusedVariables false
set_option linter.unusedSimpArgs false
def spec_l07Wire.f (a0_0 : Int) (l0_1 : List (S79)) (a1 : Int) : Option (Bool) := (spec_l01In.f a1 0 (wrap64 ((wrap64 (2 * (wrap64 (a0_0 + (l0_1.length : Int))))) + 1))).bind fun t102 => (some t102)
set_option maxHeartbeats 8000000 in
set_option maxRecDepth 100000 in
theorem spec_l07Wire.calls (a0_0 : Int) (A0_1 : Option Addr) (c0_1 : Nat) (l0_1 : List (S79)) (a1 : Int) (r : Bool) (w : World) (hr0_1 : Kd.C k79 w A0_1 l0_1.length l0_1) (hc0_1 : l0_1.length ≤ c0_1) (h : spec_l07Wire.f a0_0 l0_1 a1 = some r) :
    Calls Try.prog 62 #[.agg #[.int .i64 a0_0, .slice A0_1 l0_1.length c0_1], .int .i64 a1] w fun e w' => e = .returned (.bool r) ∧ Below w.heap.size w w' := by
  have hu29 := Try.underlying29
  have HR0_1 := Aside0.mk hr0_1
  have HC0_1 := Aside0.mk hc0_1
  clear hr0_1 hc0_1
  have HB := Aside0.mk (Below.refl w.heap.size w)
  have H : ((spec_l01In.f a1 0 (wrap64 ((wrap64 (2 * (wrap64 (a0_0 + (l0_1.length : Int))))) + 1))).bind fun t102 => (some t102)) = some r := h
  clear h
  replace H := Option.bind_eq_some_iff.mp H
  obtain ⟨t102, A30, H⟩ := H
  replace H : (some t102) = some r := H
  have A3 := Aside0.mk A30
  clear A30
  obtain rfl := Option.some.inj H
  go_enter Try.func62, Try.ntmps62
  go_wp2_with (first | ((with_reducible refine gate_dst (N := 2) rfl ?_); refine box_event ?hg (N := 2) ?hd (cs := #[.int .i64 a0_0, .slice A0_1 l0_1.length c0_1]) (t := 29) ?hr ?_; (case hd => rfl); (case hg => rfl); (case hr => first | (go_simp; done) | (go_simp; rfl)); intro gb101 hg w4 hbox hb; have n0_ := Aside0.mk (below_step (by repeat (first | (with_reducible first | exact HB.out | apply below_alloc | apply pw_below_drewN | apply below_drew1) | exact HB.out)) hb); have n1_ := Aside0.mk (hbox); have n2_ := Aside0.mk ((by rw [hg]; exact (below_size (by repeat (first | (with_reducible first | exact HB.out | apply below_alloc | apply pw_below_drewN | apply below_drew1) | exact HB.out))) : w.heap.size ≤ gb101)); have n3_ := Aside0.mk ((by rw [hg]; exact (below_size (by repeat (first | (with_reducible first | exact HB.out | apply below_alloc | apply pw_below_drewN | apply below_drew1) | exact HB.out))) : w.heap.size ≤ gb101)); clear HB; have HB := n0_; have BK101 := n1_; have GW101 := n2_; have GE101 := n3_; clear n0_ n1_ n2_ n3_; clear hb hbox hg; have hcz5_0 : w4.cell? ⟨gb101, 0, none⟩ = some (.int .i64 a0_0) := (blk_cell BK101.out 0).trans rfl; have hcz5_1 : w4.cell? ⟨gb101, 1, none⟩ = some (.slice A0_1 l0_1.length c0_1) := (blk_cell BK101.out 1).trans rfl; have hfz5_0 := blk_frozen BK101.out 0; have hfz5_1 := blk_frozen BK101.out 1) | ((with_reducible refine gate_callee (f := 58) rfl ?_); refine goesL_ (some 14) rfl rfl Try.func58 (by kernel_rfl) rfl #[.int .i64 a1, .int .i64 0, .int .i64 (wrap64 ((wrap64 (2 * (wrap64 (a0_0 + (l0_1.length : Int))))) + 1))] rfl (by (try simp only [List.map_toArray, List.map_cons, List.map_nil]); first | done | rfl | (simp only [List.length_drop, List.length_take]; rfl)) ?_; (with_reducible refine (spec_l01In.calls a1 0 (wrap64 ((wrap64 (2 * (wrap64 (a0_0 + (l0_1.length : Int))))) + 1)) t102 _ A3.out).mono ?_); rintro e w' ⟨rfl, ⟨nd, rfl⟩⟩; refine ⟨_, rfl, ?_⟩))
  go_ret
  exact ⟨by first | rfl | (simp [errW_none, errW_some] <;> rfl) | (simp [*, errW_none, errW_some] <;> rfl), by repeat (first | (with_reducible first | exact HB.out | apply below_alloc | apply pw_below_drewN | apply below_drew1 | refine below_set ?_ GE101.out) | exact HB.out)⟩
end Go.Proofs.Yteagogcpbcickaa.G
namespace Go.Proofs.Yteagogcpbcickaa.G
open Go.Proofs.Yteagogcpbcickaa.Sh Go.RowKit Go.Proofs.YteagogcpbcickaaW.PrintWords Go.Proofs.YteagogcpbcickaaW.PrintLast Go.Proofs.YteagogcpbcickaaW.PrintMore
attribute [local go_sem] max2_int min2_int max_two min_two max_three min_three max_four min_four   -- for this text's walks alone
set_option linter.unusedVariables false
set_option linter.unusedSimpArgs false
mutual
def spec_GraphSize.j0 : Nat → Int → Bool → Int → List (S79) → Option (Int)
  | 0, _, _, _, _ => none
  | k + 1, x1, x19, x102000, x102001 => if x19 = true then (some (-1)) else (spec_GraphSize.l0 k x1 (([] : List Bool)) 0 x102000 x102001)
def spec_GraphSize.l0 : Nat → Int → List Bool → Int → Int → List (S79) → Option (Int)
  | 0, _, _, _, _, _ => none
  | k + 1, x1, x5, x6, x102000, x102001 => if x6 < (x102001.length : Int) then (if x5.length < 140737488355328 then (spec_GraphSize.l0 k x1 (x5 ++ [false]) (wrap64 (x6 + 1)) x102000 x102001) else (none)) else (if (wrap64 (Int.tdiv x1 2)) > x102000 then (if 0 ≤ (wrap64 ((wrap64 ((wrap64 (Int.tdiv x1 2)) - x102000)) - 1)) then (if (wrap64 ((wrap64 ((wrap64 (Int.tdiv x1 2)) - x102000)) - 1)) < (x5.length : Int) then (spec_GraphSize.j2 k (x5.set ((wrap64 ((wrap64 ((wrap64 (Int.tdiv x1 2)) - x102000)) - 1)) : Int).toNat true) 0 x102000 x102001) else (none)) else (none)) else (spec_GraphSize.j2 k x5 0 x102000 x102001))
def spec_GraphSize.j2 : Nat → List Bool → Int → Int → List (S79) → Option (Int)
  | 0, _, _, _, _ => none
  | k + 1, x5, x7, x102000, x102001 => spec_GraphSize.l1 k x5 x7 (wrap64 ((x102001.length : Int) - 1)) x102000 x102001
def spec_GraphSize.l1 : Nat → List Bool → Int → Int → Int → List (S79) → Option (Int)
  | 0, _, _, _, _, _ => none
  | k + 1, x5, x7, x8, x102000, x102001 => if x8 ≥ 0 then (if 0 ≤ x8 then (if x8 < (x5.length : Int) then (if rdOf false x5 x8 = true then (if x8 < (x102001.length : Int) then (if (wrap64 ((wrap64 ((wrap64 (Int.tdiv ((rd_T79 x102001 x8).f0) 2)) - x102000)) - 1)) ≥ 0 then (if 0 ≤ (wrap64 ((wrap64 ((wrap64 (Int.tdiv ((rd_T79 x102001 x8).f0) 2)) - x102000)) - 1)) then (if (wrap64 ((wrap64 ((wrap64 (Int.tdiv ((rd_T79 x102001 x8).f0) 2)) - x102000)) - 1)) < (x5.length : Int) then ((some (x5.set ((wrap64 ((wrap64 ((wrap64 (Int.tdiv ((rd_T79 x102001 x8).f0) 2)) - x102000)) - 1)) : Int).toNat true : List Bool)).bind fun y114 => (if (wrap64 ((wrap64 ((wrap64 (Int.tdiv ((rd_T79 x102001 x8).f1) 2)) - x102000)) - 1)) ≥ 0 then (if 0 ≤ (wrap64 ((wrap64 ((wrap64 (Int.tdiv ((rd_T79 x102001 x8).f1) 2)) - x102000)) - 1)) then (if (wrap64 ((wrap64 ((wrap64 (Int.tdiv ((rd_T79 x102001 x8).f1) 2)) - x102000)) - 1)) < (x5.length : Int) then (spec_GraphSize.l1 k (y114.set ((wrap64 ((wrap64 ((wrap64 (Int.tdiv ((rd_T79 x102001 x8).f1) 2)) - x102000)) - 1)) : Int).toNat true) (wrap64 (x7 + 1)) (wrap64 (x8 - 1)) x102000 x102001) else (none)) else (none)) else (spec_GraphSize.l1 k y114 (wrap64 (x7 + 1)) (wrap64 (x8 - 1)) x102000 x102001))) else (none)) else (none)) else (if (wrap64 ((wrap64 ((wrap64 (Int.tdiv ((rd_T79 x102001 x8).f1) 2)) - x102000)) - 1)) ≥ 0 then (if 0 ≤ (wrap64 ((wrap64 ((wrap64 (Int.tdiv ((rd_T79 x102001 x8).f1) 2)) - x102000)) - 1)) then (if (wrap64 ((wrap64 ((wrap64 (Int.tdiv ((rd_T79 x102001 x8).f1) 2)) - x102000)) - 1)) < (x5.length : Int) then (spec_GraphSize.l1 k (x5.set ((wrap64 ((wrap64 ((wrap64 (Int.tdiv ((rd_T79 x102001 x8).f1) 2)) - x102000)) - 1)) : Int).toNat true) (wrap64 (x7 + 1)) (wrap64 (x8 - 1)) x102000 x102001) else (none)) else (none)) else (spec_GraphSize.l1 k x5 (wrap64 (x7 + 1)) (wrap64 (x8 - 1)) x102000 x102001))) else (none)) else (spec_GraphSize.l1 k x5 x7 (wrap64 (x8 - 1)) x102000 x102001)) else (none)) else (none)) else (some x7)
end
def spec_GraphSize.f (k : Nat) (a0_0 : Int) (l0_1 : List (S79)) (a1 : Int) : Option (Int) := (spec_GraphOk.f k a0_0 l0_1).bind fun t102 => (if t102 = true then ((spec_l07Wire.f a0_0 l0_1 a1).bind fun t103 => (spec_GraphSize.j0 k a1 (!t103) a0_0 l0_1)) else (spec_GraphSize.j0 k a1 true a0_0 l0_1))
set_option maxHeartbeats 80000000 in
set_option maxRecDepth 100000 in
theorem spec_GraphSize.calls (k : Nat) (a0_0 : Int) (A0_1 : Option Addr) (c0_1 : Nat) (l0_1 : List (S79)) (a1 : Int) (r : Int) (w : World) (hr0_1 : Kd.C k79 w A0_1 l0_1.length l0_1) (hc0_1 : l0_1.length ≤ c0_1) (h : spec_GraphSize.f k a0_0 l0_1 a1 = some r) :
  Calls Try.prog 20 #[.agg #[.int .i64 a0_0, .slice A0_1 l0_1.length c0_1], .int .i64 a1] w fun e w' => e = .returned (.int .i64 r) ∧ Below w.heap.size w w' := by
 have hu29 := Try.underlying29; have HR0_1 := Aside0.mk hr0_1; have HC0_1 := Aside0.mk hc0_1; clear hr0_1 hc0_1; have HB := Aside0.mk (Below.refl w.heap.size w)
 have H : ((spec_GraphOk.f k a0_0 l0_1).bind fun t102 => (if t102 = true then ((spec_l07Wire.f a0_0 l0_1 a1).bind fun t103 => (spec_GraphSize.j0 k a1 (!t103) a0_0 l0_1)) else (spec_GraphSize.j0 k a1 true a0_0 l0_1))) = some r := h
 clear h; have HC3 := Aside0.mk H; clear H
 go_enter Try.func20, Try.ntmps20
 go_upto_region 1 with (first | ((with_reducible refine gate_dst (N := 2) rfl ?_); refine box_event ?hg (N := 2) ?hd (cs := #[.int .i64 a0_0, .slice A0_1 l0_1.length c0_1]) (t := 29) ?hr ?_; (case hd => rfl); (case hg => rfl); (case hr => first | (go_simp; done) | (go_simp; rfl)); intro gb101 hg w4 hbox hb; have n0_ := bs0 HB hb; have n1_ := Aside0.mk (hbox); have n2_ := bz0 hg HB; have n3_ := bz0 hg HB; clear HB; have HB := n0_; have BK101 := n1_; have GW101 := n2_; have GE101 := n3_; clear n0_ n1_ n2_ n3_; clear hb hbox hg))
 repeat (go_quiet (first | ((with_reducible refine gate_dst (N := 2) rfl ?_); refine box_event ?hg (N := 2) ?hd (cs := #[.int .i64 a0_0, .slice A0_1 l0_1.length c0_1]) (t := 29) ?hr ?_; (case hd => rfl); (case hg => rfl); (case hr => first | (go_simp; done) | (go_simp; rfl)); intro gb101 hg w4 hbox hb; have n0_ := bs0 HB hb; have n1_ := Aside0.mk (hbox); have n2_ := bz0 hg HB; have n3_ := bz0 hg HB; clear HB; have HB := n0_; have BK101 := n1_; have GW101 := n2_; have GE101 := n3_; clear n0_ n1_ n2_ n3_; clear hb hbox hg)); go_upto_region 1 with (first | ((with_reducible refine gate_dst (N := 2) rfl ?_); refine box_event ?hg (N := 2) ?hd (cs := #[.int .i64 a0_0, .slice A0_1 l0_1.length c0_1]) (t := 29) ?hr ?_; (case hd => rfl); (case hg => rfl); (case hr => first | (go_simp; done) | (go_simp; rfl)); intro gb101 hg w4 hbox hb; have n0_ := bs0 HB hb; have n1_ := Aside0.mk (hbox); have n2_ := bz0 hg HB; have n3_ := bz0 hg HB; clear HB; have HB := n0_; have BK101 := n1_; have GW101 := n2_; have GE101 := n3_; clear n0_ n1_ n2_ n3_; clear hb hbox hg)))
 (try simp only [Act.put, List.setIfInBounds_toArray, List.set_cons_zero, List.set_cons_succ])
 go_cut [19] (fun v19 wc => ∃ (kq : Nat) (x19_2 : Bool), v19 = .bool x19_2 ∧ Aside0 (spec_GraphSize.j0 kq a1 x19_2 a0_0 l0_1 = some r) ∧ Aside0 (kq ≤ k) ∧ Aside0 (wc.heap[gb101]? = some (.cells #[.int .i64 a0_0, (.slice A0_1 l0_1.length c0_1)] 29 (0, 0))) ∧ Aside0 (Below w.heap.size w wc))
 case first =>
  have H := HC3.out; clear HC3
  replace H := Option.bind_eq_some_iff.mp H
  obtain ⟨t102, A50, H⟩ := H
  replace H : (if t102 = true then ((spec_l07Wire.f a0_0 l0_1 a1).bind fun t103 => (spec_GraphSize.j0 k a1 (!t103) a0_0 l0_1)) else (spec_GraphSize.j0 k a1 true a0_0 l0_1)) = some r := H
  have A5 := Aside0.mk A50; clear A50
  by_cases c6 : t102 = true
  ·subst c6
   have H1 : ((spec_l07Wire.f a0_0 l0_1 a1).bind fun t103 => (spec_GraphSize.j0 k a1 (!t103) a0_0 l0_1)) = some r := by rw [if_pos rfl] at H; exact H
   clear H; have H := H1; clear H1
   replace H := Option.bind_eq_some_iff.mp H
   obtain ⟨t103, A70, H⟩ := H
   replace H : (spec_GraphSize.j0 k a1 (!t103) a0_0 l0_1) = some r := H
   have A7 := Aside0.mk A70; clear A70
   have H' := Aside0.mk H
   clear H; have hcz8_0 : w4.cell? ⟨gb101, 0, none⟩ = some (.int .i64 a0_0) := (blk_cell BK101.out 0).trans rfl; have hcz8_1 : w4.cell? ⟨gb101, 1, none⟩ = some (.slice A0_1 l0_1.length c0_1) := (blk_cell BK101.out 1).trans rfl; have hfz8_0 := blk_frozen BK101.out 0; have hfz8_1 := blk_frozen BK101.out 1
   go_wp2_with (first | (go_at_call 16; (try simp only [i64_w, i32_w]); (with_reducible refine (spec_GraphOk.calls k a0_0 _ _ l0_1 true _ ?side1 ?side2 A5.out).mono ?_); (case side1 => repeat (first | exact (Kd.C_below HR0_1.out HB.out) | (with_reducible refine Kd.C_alloc ?_ _) | (with_reducible refine Kd.C_drewN ?_ _) | (with_reducible refine Kd.C_drew ?_))); (case side2 => exact HC0_1.out); rintro e w9 ⟨rfl, hb⟩; have n0_ := bb BK101 hb; have n1_ := bs1 HB hb GE101; clear BK101; clear HB; have BK101 := n0_; have HB := n1_; clear n0_ n1_; (try clear hb); (try clear hb2); (try clear hk); (try clear hi); have hcz10_0 : w9.cell? ⟨gb101, 0, none⟩ = some (.int .i64 a0_0) := (blk_cell BK101.out 0).trans rfl; have hcz10_1 : w9.cell? ⟨gb101, 1, none⟩ = some (.slice A0_1 l0_1.length c0_1) := (blk_cell BK101.out 1).trans rfl; have hfz10_0 := blk_frozen BK101.out 0; have hfz10_1 := blk_frozen BK101.out 1) | (go_at_call 62; (try simp only [i64_w, i32_w]); (with_reducible refine (spec_l07Wire.calls a0_0 _ _ l0_1 a1 t103 _ ?side1 ?side2 A7.out).mono ?_); (case side1 => repeat (first | exact (Kd.C_below HR0_1.out HB.out) | (with_reducible refine Kd.C_alloc ?_ _) | (with_reducible refine Kd.C_drewN ?_ _) | (with_reducible refine Kd.C_drew ?_))); (case side2 => exact HC0_1.out); rintro e w11 ⟨rfl, hb⟩; have n0_ := bb BK101 hb; have n1_ := bs1 HB hb GE101; clear BK101; clear HB; have BK101 := n0_; have HB := n1_; clear n0_ n1_; (try clear hb); (try clear hb2); (try clear hk); (try clear hi)))
   repeat (go_quiet (first | (go_at_call 16; (try simp only [i64_w, i32_w]); (with_reducible refine (spec_GraphOk.calls k a0_0 _ _ l0_1 true _ ?side1 ?side2 A5.out).mono ?_); (case side1 => repeat (first | exact (Kd.C_below HR0_1.out HB.out) | (with_reducible refine Kd.C_alloc ?_ _) | (with_reducible refine Kd.C_drewN ?_ _) | (with_reducible refine Kd.C_drew ?_))); (case side2 => exact HC0_1.out); rintro e w9 ⟨rfl, hb⟩; have n0_ := bb BK101 hb; have n1_ := bs1 HB hb GE101; clear BK101; clear HB; have BK101 := n0_; have HB := n1_; clear n0_ n1_; (try clear hb); (try clear hb2); (try clear hk); (try clear hi); have hcz10_0 : w9.cell? ⟨gb101, 0, none⟩ = some (.int .i64 a0_0) := (blk_cell BK101.out 0).trans rfl; have hcz10_1 : w9.cell? ⟨gb101, 1, none⟩ = some (.slice A0_1 l0_1.length c0_1) := (blk_cell BK101.out 1).trans rfl; have hfz10_0 := blk_frozen BK101.out 0; have hfz10_1 := blk_frozen BK101.out 1) | (go_at_call 62; (try simp only [i64_w, i32_w]); (with_reducible refine (spec_l07Wire.calls a0_0 _ _ l0_1 a1 t103 _ ?side1 ?side2 A7.out).mono ?_); (case side1 => repeat (first | exact (Kd.C_below HR0_1.out HB.out) | (with_reducible refine Kd.C_alloc ?_ _) | (with_reducible refine Kd.C_drewN ?_ _) | (with_reducible refine Kd.C_drew ?_))); (case side2 => exact HC0_1.out); rintro e w11 ⟨rfl, hb⟩; have n0_ := bb BK101 hb; have n1_ := bs1 HB hb GE101; clear BK101; clear HB; have BK101 := n0_; have HB := n1_; clear n0_ n1_; (try clear hb); (try clear hb2); (try clear hk); (try clear hi))); try go_wp2_with (first | (go_at_call 16; (try simp only [i64_w, i32_w]); (with_reducible refine (spec_GraphOk.calls k a0_0 _ _ l0_1 true _ ?side1 ?side2 A5.out).mono ?_); (case side1 => repeat (first | exact (Kd.C_below HR0_1.out HB.out) | (with_reducible refine Kd.C_alloc ?_ _) | (with_reducible refine Kd.C_drewN ?_ _) | (with_reducible refine Kd.C_drew ?_))); (case side2 => exact HC0_1.out); rintro e w9 ⟨rfl, hb⟩; have n0_ := bb BK101 hb; have n1_ := bs1 HB hb GE101; clear BK101; clear HB; have BK101 := n0_; have HB := n1_; clear n0_ n1_; (try clear hb); (try clear hb2); (try clear hk); (try clear hi); have hcz10_0 : w9.cell? ⟨gb101, 0, none⟩ = some (.int .i64 a0_0) := (blk_cell BK101.out 0).trans rfl; have hcz10_1 : w9.cell? ⟨gb101, 1, none⟩ = some (.slice A0_1 l0_1.length c0_1) := (blk_cell BK101.out 1).trans rfl; have hfz10_0 := blk_frozen BK101.out 0; have hfz10_1 := blk_frozen BK101.out 1) | (go_at_call 62; (try simp only [i64_w, i32_w]); (with_reducible refine (spec_l07Wire.calls a0_0 _ _ l0_1 a1 t103 _ ?side1 ?side2 A7.out).mono ?_); (case side1 => repeat (first | exact (Kd.C_below HR0_1.out HB.out) | (with_reducible refine Kd.C_alloc ?_ _) | (with_reducible refine Kd.C_drewN ?_ _) | (with_reducible refine Kd.C_drew ?_))); (case side2 => exact HC0_1.out); rintro e w11 ⟨rfl, hb⟩; have n0_ := bb BK101 hb; have n1_ := bs1 HB hb GE101; clear BK101; clear HB; have BK101 := n0_; have HB := n1_; clear n0_ n1_; (try clear hb); (try clear hb2); (try clear hk); (try clear hi))))
   go_meet
   case rel => exact ⟨_, (!t103), (by first | rfl | (simp; done) | (simp [*]; done)), H', ⟨by first | omega | exact Nat.le_refl _⟩, ⟨by (with_reducible repeat (first | refine blk_drewN ?_ _ | refine blk_drew ?_ | refine blk_alloc ?_ _)); exact BK101.out⟩, ⟨by repeat (first | (with_reducible first | exact HB.out | apply below_alloc | apply pw_below_drewN | apply below_drew1 | refine below_set ?_ GE101.out) | exact HB.out)⟩⟩
  ·replace c6 := Bool.eq_false_iff.mpr c6
   subst c6
   have H1 : (spec_GraphSize.j0 k a1 true a0_0 l0_1) = some r := by rw [if_neg (show ¬ (false = true) by decide)] at H; exact H
   clear H; have H := H1; clear H1
   have H' := Aside0.mk H
   clear H; have hcz12_0 : w4.cell? ⟨gb101, 0, none⟩ = some (.int .i64 a0_0) := (blk_cell BK101.out 0).trans rfl; have hcz12_1 : w4.cell? ⟨gb101, 1, none⟩ = some (.slice A0_1 l0_1.length c0_1) := (blk_cell BK101.out 1).trans rfl; have hfz12_0 := blk_frozen BK101.out 0; have hfz12_1 := blk_frozen BK101.out 1
   go_wp2_with (first | (go_at_call 16; (try simp only [i64_w, i32_w]); (with_reducible refine (spec_GraphOk.calls k a0_0 _ _ l0_1 false _ ?side1 ?side2 A5.out).mono ?_); (case side1 => repeat (first | exact (Kd.C_below HR0_1.out HB.out) | (with_reducible refine Kd.C_alloc ?_ _) | (with_reducible refine Kd.C_drewN ?_ _) | (with_reducible refine Kd.C_drew ?_))); (case side2 => exact HC0_1.out); rintro e w13 ⟨rfl, hb⟩; have n0_ := bb BK101 hb; have n1_ := bs1 HB hb GE101; clear BK101; clear HB; have BK101 := n0_; have HB := n1_; clear n0_ n1_; (try clear hb); (try clear hb2); (try clear hk); (try clear hi)))
   repeat (go_quiet (first | (go_at_call 16; (try simp only [i64_w, i32_w]); (with_reducible refine (spec_GraphOk.calls k a0_0 _ _ l0_1 false _ ?side1 ?side2 A5.out).mono ?_); (case side1 => repeat (first | exact (Kd.C_below HR0_1.out HB.out) | (with_reducible refine Kd.C_alloc ?_ _) | (with_reducible refine Kd.C_drewN ?_ _) | (with_reducible refine Kd.C_drew ?_))); (case side2 => exact HC0_1.out); rintro e w13 ⟨rfl, hb⟩; have n0_ := bb BK101 hb; have n1_ := bs1 HB hb GE101; clear BK101; clear HB; have BK101 := n0_; have HB := n1_; clear n0_ n1_; (try clear hb); (try clear hb2); (try clear hk); (try clear hi))); try go_wp2_with (first | (go_at_call 16; (try simp only [i64_w, i32_w]); (with_reducible refine (spec_GraphOk.calls k a0_0 _ _ l0_1 false _ ?side1 ?side2 A5.out).mono ?_); (case side1 => repeat (first | exact (Kd.C_below HR0_1.out HB.out) | (with_reducible refine Kd.C_alloc ?_ _) | (with_reducible refine Kd.C_drewN ?_ _) | (with_reducible refine Kd.C_drew ?_))); (case side2 => exact HC0_1.out); rintro e w13 ⟨rfl, hb⟩; have n0_ := bb BK101 hb; have n1_ := bs1 HB hb GE101; clear BK101; clear HB; have BK101 := n0_; have HB := n1_; clear n0_ n1_; (try clear hb); (try clear hb2); (try clear hk); (try clear hi))))
   go_meet
   case rel => exact ⟨_, (true), (by first | rfl | (simp; done) | (simp [*]; done)), H', ⟨by first | omega | exact Nat.le_refl _⟩, ⟨by (with_reducible repeat (first | refine blk_drewN ?_ _ | refine blk_drew ?_ | refine blk_alloc ?_ _)); exact BK101.out⟩, ⟨by repeat (first | (with_reducible first | exact HB.out | apply below_alloc | apply pw_below_drewN | apply below_drew1 | refine below_set ?_ GE101.out) | exact HB.out)⟩⟩
 case rest =>
  clear HC3
  (try clear c2); (try clear p2); (try clear c6); (try clear hcz10_0); (try clear hcz10_1); (try clear hcz12_0); (try clear hcz12_1); (try clear hcz8_0); (try clear hcz8_1); (try clear hfz10_0); (try clear hfz10_1); (try clear hfz12_0); (try clear hfz12_1); (try clear hfz8_0); (try clear hfz8_1)
  obtain ⟨kq, x19_2, rfl, HA, HJ2, BK101, HB⟩ := hcut
  cases kq with
    | zero => exact absurd HA.out (by simp [spec_GraphSize.j0])
    | succ kj2 =>
   have H := HA.out; clear HA
   simp only [spec_GraphSize.j0] at H
   by_cases c14 : x19_2 = true
   ·subst c14
    have H1 : (some (-1)) = some r := by rw [if_pos rfl] at H; exact H
    clear H; have H := H1; clear H1
    obtain rfl := Option.some.inj H
    go_wp2
    repeat (go_quiet (fail); try go_wp2)
    go_ret
    exact ⟨by first | rfl | (simp [errW_none, errW_some] <;> rfl) | (simp [*, errW_none, errW_some] <;> rfl), by repeat (first | (with_reducible first | exact HB.out | apply below_alloc | apply pw_below_drewN | apply below_drew1 | refine below_set ?_ GE101.out) | exact HB.out)⟩
   ·replace c14 := Bool.eq_false_iff.mpr c14
    subst c14
    have H1 : (spec_GraphSize.l0 kj2 a1 (([] : List Bool)) 0 a0_0 l0_1) = some r := by rw [if_neg (show ¬ (false = true) by decide)] at H; exact H
    clear H; have H := H1; clear H1
    obtain ⟨y104, hy104⟩ : ∃ y_ : List Bool, y_ = (([] : List Bool)) := ⟨_, rfl⟩
    replace H : (spec_GraphSize.l0 kj2 a1 y104 0 a0_0 l0_1) = some r := by first | (rw [hy104]; with_reducible exact H) | (have H2_ := (Option.bind_some _ _).symm.trans H; rw [hy104]; with_reducible exact H2_) | (have H2_ := (Option.bind_some _ _).symm.trans H; with_reducible exact H2_) | with_reducible exact H | (rw [hy104]; exact H) | exact H
    have Ny104 := Aside0.mk hy104; clear hy104
    have H' := Aside0.mk H
    clear H
    go_wp2_with (first | ((with_reducible refine gate_dst (N := 20) rfl ?_); refine Kd.R_lit Kd.bool _ 4 ?hg (N := 20) ?hd (xs := ([] : List Bool)) (inner := []) (ok := fun _ => True) (okp := fun _ => True) ?hr ?hp (fun _ hk => hk) trivial (Below.refl _ _) (Nat.le_refl _) (by simp) ?_; (case hd => rfl); (case hg => rfl); (case hr => first | (go_simp; done) | (go_simp; rfl)); (case hp => exact (Reps.none _ _)); intro v105 w15 ho16 hb hg_ hnew_; clear hg_ hnew_; (first | rw [← Ny104.out] at ho16 | (simp only [Int.reduceToNat] at ho16; rw [← Ny104.out] at ho16)); have n0_ := Aside0.mk (Kd.R_lower ho16 (below_size (by repeat (first | (with_reducible first | exact HB.out | apply below_alloc | apply pw_below_drewN | apply below_drew1 | refine below_set ?_ GE101.out) | exact HB.out)))); have n1_ := bb BK101 hb; have n2_ := bs1 HB hb GE101; clear BK101; clear HB; have HO106 := n0_; have BK101 := n1_; have HB := n2_; clear n0_ n1_ n2_; clear hb ho16))
    repeat (go_quiet (first | ((with_reducible refine gate_dst (N := 20) rfl ?_); refine Kd.R_lit Kd.bool _ 4 ?hg (N := 20) ?hd (xs := ([] : List Bool)) (inner := []) (ok := fun _ => True) (okp := fun _ => True) ?hr ?hp (fun _ hk => hk) trivial (Below.refl _ _) (Nat.le_refl _) (by simp) ?_; (case hd => rfl); (case hg => rfl); (case hr => first | (go_simp; done) | (go_simp; rfl)); (case hp => exact (Reps.none _ _)); intro v105 w15 ho16 hb hg_ hnew_; clear hg_ hnew_; (first | rw [← Ny104.out] at ho16 | (simp only [Int.reduceToNat] at ho16; rw [← Ny104.out] at ho16)); have n0_ := Aside0.mk (Kd.R_lower ho16 (below_size (by repeat (first | (with_reducible first | exact HB.out | apply below_alloc | apply pw_below_drewN | apply below_drew1 | refine below_set ?_ GE101.out) | exact HB.out)))); have n1_ := bb BK101 hb; have n2_ := bs1 HB hb GE101; clear BK101; clear HB; have HO106 := n0_; have BK101 := n1_; have HB := n2_; clear n0_ n1_ n2_; clear hb ho16)); try go_wp2_with (first | ((with_reducible refine gate_dst (N := 20) rfl ?_); refine Kd.R_lit Kd.bool _ 4 ?hg (N := 20) ?hd (xs := ([] : List Bool)) (inner := []) (ok := fun _ => True) (okp := fun _ => True) ?hr ?hp (fun _ hk => hk) trivial (Below.refl _ _) (Nat.le_refl _) (by simp) ?_; (case hd => rfl); (case hg => rfl); (case hr => first | (go_simp; done) | (go_simp; rfl)); (case hp => exact (Reps.none _ _)); intro v105 w15 ho16 hb hg_ hnew_; clear hg_ hnew_; (first | rw [← Ny104.out] at ho16 | (simp only [Int.reduceToNat] at ho16; rw [← Ny104.out] at ho16)); have n0_ := Aside0.mk (Kd.R_lower ho16 (below_size (by repeat (first | (with_reducible first | exact HB.out | apply below_alloc | apply pw_below_drewN | apply below_drew1 | refine below_set ?_ GE101.out) | exact HB.out)))); have n1_ := bb BK101 hb; have n2_ := bs1 HB hb GE101; clear BK101; clear HB; have HO106 := n0_; have BK101 := n1_; have HB := n2_; clear n0_ n1_ n2_; clear hb ho16)))
    go_loopg [5, 6] kj2 (fun kq v5 v6 w' => ∃ (x5_2 : List Bool) (x6_2 : Int), v6 = .int .i64 x6_2 ∧ Aside0 (spec_GraphSize.l0 kq a1 x5_2 x6_2 a0_0 l0_1 = some r) ∧ Aside0 (kq ≤ kj2) ∧ Aside0 (Kd.R Kd.bool 4 w' w.heap.size (fun _ => True) v5 x5_2) ∧ Aside0 (w'.heap[gb101]? = some (.cells #[.int .i64 a0_0, (.slice A0_1 l0_1.length c0_1)] 29 (0, 0))) ∧ Aside0 (Below w.heap.size w w'))
    case atStart => exact ⟨(y104), (0), (by first | rfl | (simp; done) | (simp [*]; done)), H', ⟨Nat.le_refl _⟩, ⟨by (with_reducible repeat (first | apply Kd.R_alloc | apply Kd.R_drewN | apply Kd.R_drew)); exact HO106.out⟩, ⟨by (with_reducible repeat (first | refine blk_drewN ?_ _ | refine blk_drew ?_ | refine blk_alloc ?_ _)); exact BK101.out⟩, ⟨by repeat (first | (with_reducible first | exact HB.out | apply below_alloc | apply pw_below_drewN | apply below_drew1 | refine below_set ?_ GE101.out) | exact HB.out)⟩⟩
    case round =>
     clear H'
     (try clear c1); (try clear c2); (try clear p2); (try clear c6); (try clear c14); (try clear hcz10_0); (try clear hcz10_1); (try clear hcz12_0); (try clear hcz12_1); (try clear hcz8_0); (try clear hcz8_1); (try clear hfz10_0); (try clear hfz10_1); (try clear hfz12_0); (try clear hfz12_1); (try clear hfz8_0); (try clear hfz8_1); (try clear p2)
     obtain ⟨x5_2, x6_2, rfl, HA, HK2, HO_5, BK101, HB⟩ := hrel
     cases gk with
          | zero => exact absurd HA.out (by simp [spec_GraphSize.l0])
          | succ k2 =>
      have H := HA.out; clear HA
      simp only [spec_GraphSize.l0] at H
      by_cases c17 : x6_2 < (l0_1.length : Int)
      ·rw [if_pos c17] at H
       have c17b0 : decide (x6_2 < (l0_1.length : Int)) = true := decide_eq_true c17; clear c17
       by_cases c18 : x5_2.length < 140737488355328
       ·rw [if_pos c18] at H
        have LMc18 := Aside0.mk c18; clear c18
        obtain ⟨y107, hy107⟩ : ∃ y_ : List Bool, y_ = (x5_2 ++ [false]) := ⟨_, rfl⟩
        replace H : (spec_GraphSize.l0 k2 a1 y107 (wrap64 (x6_2 + 1)) a0_0 l0_1) = some r := by first | (rw [hy107]; with_reducible exact H) | (have H2_ := (Option.bind_some _ _).symm.trans H; rw [hy107]; with_reducible exact H2_) | (have H2_ := (Option.bind_some _ _).symm.trans H; with_reducible exact H2_) | with_reducible exact H | (rw [hy107]; exact H) | exact H
        have Ny107 := Aside0.mk hy107; clear hy107
        have H' := Aside0.mk H
        clear H; have hcz19_0 : wr.cell? ⟨gb101, 0, none⟩ = some (.int .i64 a0_0) := (blk_cell BK101.out 0).trans rfl; have hcz19_1 : wr.cell? ⟨gb101, 1, none⟩ = some (.slice A0_1 l0_1.length c0_1) := (blk_cell BK101.out 1).trans rfl; have hfz19_0 := blk_frozen BK101.out 0; have hfz19_1 := blk_frozen BK101.out 1
        go_wp2_with (first | ((with_reducible refine gate_builtin (b := .append) (xs := #[.tmp 28, .tmp 29]) rfl ?_); at_builtin; refine Kd.R_append Kd.bool (w0 := w) w.heap.size rfl (.tmp 28) (.tmp 29) 84 4 (.bool false) 1 rfl Try.underlying84 info4 rfl (by decide) (by omega) u5 x5_2 false [.bool false] (fun _ => True) (fun _ => False) rfl rfl ?aP (fun _ hk => hk.elim) ?aF ?aO ?aB ?aS ?aL ?_; (case aP => exact rfl); (case aB => exact (by repeat (first | (with_reducible first | exact HB.out | apply below_alloc | apply pw_below_drewN | apply below_drew1 | refine below_set ?_ GE101.out) | exact HB.out))); (case aF => exact (fun _ _ => trivial)); (case aO => exact (by (with_reducible repeat (first | apply Kd.R_alloc | apply Kd.R_drewN | apply Kd.R_drew)); exact HO_5.out)); (case aS => exact (below_size (by repeat (first | (with_reducible first | exact HB.out | apply below_alloc | apply pw_below_drewN | apply below_drew1 | refine below_set ?_ GE101.out) | exact HB.out)))); (case aL => have := LMc18.out; omega); intro v108 w20 ho hb hg hat; rw [← Ny107.out] at ho; have n0_ := Aside0.mk (blk_grown (g := gb101) (o := .cells #[.int .i64 a0_0, .slice A0_1 l0_1.length c0_1] 29 (0, 0)) (dr BK101) hg (Kd.R_ne HO_5.out BK101.out (by decide))); have n1_ := Aside0.mk (hb); have n2_ := Aside0.mk (ho); clear BK101; clear HB; clear HO_5; have BK101 := n0_; have HB := n1_; have HO109 := n2_; clear n0_ n1_ n2_; clear ho hb hg hat))
        repeat (go_quiet (first | ((with_reducible refine gate_builtin (b := .append) (xs := #[.tmp 28, .tmp 29]) rfl ?_); at_builtin; refine Kd.R_append Kd.bool (w0 := w) w.heap.size rfl (.tmp 28) (.tmp 29) 84 4 (.bool false) 1 rfl Try.underlying84 info4 rfl (by decide) (by omega) u5 x5_2 false [.bool false] (fun _ => True) (fun _ => False) rfl rfl ?aP (fun _ hk => hk.elim) ?aF ?aO ?aB ?aS ?aL ?_; (case aP => exact rfl); (case aB => exact (by repeat (first | (with_reducible first | exact HB.out | apply below_alloc | apply pw_below_drewN | apply below_drew1 | refine below_set ?_ GE101.out) | exact HB.out))); (case aF => exact (fun _ _ => trivial)); (case aO => exact (by (with_reducible repeat (first | apply Kd.R_alloc | apply Kd.R_drewN | apply Kd.R_drew)); exact HO_5.out)); (case aS => exact (below_size (by repeat (first | (with_reducible first | exact HB.out | apply below_alloc | apply pw_below_drewN | apply below_drew1 | refine below_set ?_ GE101.out) | exact HB.out)))); (case aL => have := LMc18.out; omega); intro v108 w20 ho hb hg hat; rw [← Ny107.out] at ho; have n0_ := Aside0.mk (blk_grown (g := gb101) (o := .cells #[.int .i64 a0_0, .slice A0_1 l0_1.length c0_1] 29 (0, 0)) (dr BK101) hg (Kd.R_ne HO_5.out BK101.out (by decide))); have n1_ := Aside0.mk (hb); have n2_ := Aside0.mk (ho); clear BK101; clear HB; clear HO_5; have BK101 := n0_; have HB := n1_; have HO109 := n2_; clear n0_ n1_ n2_; clear ho hb hg hat)); try go_wp2_with (first | ((with_reducible refine gate_builtin (b := .append) (xs := #[.tmp 28, .tmp 29]) rfl ?_); at_builtin; refine Kd.R_append Kd.bool (w0 := w) w.heap.size rfl (.tmp 28) (.tmp 29) 84 4 (.bool false) 1 rfl Try.underlying84 info4 rfl (by decide) (by omega) u5 x5_2 false [.bool false] (fun _ => True) (fun _ => False) rfl rfl ?aP (fun _ hk => hk.elim) ?aF ?aO ?aB ?aS ?aL ?_; (case aP => exact rfl); (case aB => exact (by repeat (first | (with_reducible first | exact HB.out | apply below_alloc | apply pw_below_drewN | apply below_drew1 | refine below_set ?_ GE101.out) | exact HB.out))); (case aF => exact (fun _ _ => trivial)); (case aO => exact (by (with_reducible repeat (first | apply Kd.R_alloc | apply Kd.R_drewN | apply Kd.R_drew)); exact HO_5.out)); (case aS => exact (below_size (by repeat (first | (with_reducible first | exact HB.out | apply below_alloc | apply pw_below_drewN | apply below_drew1 | refine below_set ?_ GE101.out) | exact HB.out)))); (case aL => have := LMc18.out; omega); intro v108 w20 ho hb hg hat; rw [← Ny107.out] at ho; have n0_ := Aside0.mk (blk_grown (g := gb101) (o := .cells #[.int .i64 a0_0, .slice A0_1 l0_1.length c0_1] 29 (0, 0)) (dr BK101) hg (Kd.R_ne HO_5.out BK101.out (by decide))); have n1_ := Aside0.mk (hb); have n2_ := Aside0.mk (ho); clear BK101; clear HB; clear HO_5; have BK101 := n0_; have HB := n1_; have HO109 := n2_; clear n0_ n1_ n2_; clear ho hb hg hat)))
        go_roundg k2
        case measure => have := HJ2.out; have := HK2.out; omega
        case rel => exact ⟨(y107), (wrap64 (x6_2 + 1)), (by first | rfl | (simp; done) | (simp [*]; done)), H', ⟨by have := HJ2.out; have := HK2.out; omega⟩, ⟨by (with_reducible repeat (first | apply Kd.R_alloc | apply Kd.R_drewN | apply Kd.R_drew)); exact HO109.out⟩, ⟨by (with_reducible repeat (first | refine blk_drewN ?_ _ | refine blk_drew ?_ | refine blk_alloc ?_ _)); exact BK101.out⟩, ⟨by repeat (first | (with_reducible first | exact HB.out | apply below_alloc | apply pw_below_drewN | apply below_drew1 | refine below_set ?_ GE101.out) | exact HB.out)⟩⟩
       ·rw [if_neg c18] at H
        exact absurd H (by simp)
      ·rw [if_neg c17] at H
       have c17b0 : decide (x6_2 < (l0_1.length : Int)) = false := decide_eq_false c17; clear c17; have HC21 := Aside0.mk H; clear H; have hcz22_0 : wr.cell? ⟨gb101, 0, none⟩ = some (.int .i64 a0_0) := (blk_cell BK101.out 0).trans rfl; have hcz22_1 : wr.cell? ⟨gb101, 1, none⟩ = some (.slice A0_1 l0_1.length c0_1) := (blk_cell BK101.out 1).trans rfl; have hfz22_0 := blk_frozen BK101.out 0; have hfz22_1 := blk_frozen BK101.out 1
       go_upto_if 35 with (fail)
       repeat (go_quiet (fail); go_upto_if 35 with (fail))
       go_cut [] (fun wc => ∃ (kq : Nat) (x5_20 : List Bool), Aside0 (spec_GraphSize.j2 kq x5_20 0 a0_0 l0_1 = some r) ∧ Aside0 (kq ≤ k2) ∧ Aside0 (Kd.R Kd.bool 4 wc w.heap.size (fun _ => True) u5 x5_20) ∧ Aside0 (wc.heap[gb101]? = some (.cells #[.int .i64 a0_0, (.slice A0_1 l0_1.length c0_1)] 29 (0, 0))) ∧ Aside0 (Below w.heap.size w wc))
       case first =>
        have H := HC21.out; clear HC21
        by_cases c23 : (wrap64 (Int.tdiv a1 2)) > a0_0
        ·rw [if_pos c23] at H
         have c23b0 : decide (a0_0 < (wrap64 (Int.tdiv a1 2))) = true := decide_eq_true c23; clear c23
         (first | rw [c23b0] | (simp only [i64_w, i32_w]; rw [c23b0]) | skip)
         obtain ⟨ji24, hji24⟩ : ∃ j_ : Int, (wrap64 ((wrap64 ((wrap64 (Int.tdiv a1 2)) - a0_0)) - 1)) = j_ := ⟨_, rfl⟩
         replace H : (if 0 ≤ (ji24) then (if (ji24) < (x5_2.length : Int) then (spec_GraphSize.j2 k2 (x5_2.set ((ji24) : Int).toNat true) 0 a0_0 l0_1) else (none)) else (none)) = some r := by first | (rw [hji24] at H; exact H) | (simp only [hji24] at H ⊢; exact H)
         have hji24w : (IntKind.i64.wrap ((wrap64 ((wrap64 (Int.tdiv a1 2)) - a0_0)) - 1)) = ji24 := (i64_w _).trans hji24
         by_cases c25 : 0 ≤ (ji24)
         ·rw [if_pos c25] at H
          have c25b0 : decide (0 ≤ (ji24)) = true := decide_eq_true c25; clear c25
          by_cases c26 : (ji24) < (x5_2.length : Int)
          ·rw [if_pos c26] at H
           have c26b0 : decide ((ji24) < (x5_2.length : Int)) = true := decide_eq_true c26; clear c26
           obtain ⟨y110, hy110⟩ : ∃ y_ : List Bool, y_ = (x5_2.set ((ji24) : Int).toNat true) := ⟨_, rfl⟩
           replace H : (spec_GraphSize.j2 k2 y110 0 a0_0 l0_1) = some r := by first | (rw [hy110]; with_reducible exact H) | (have H2_ := (Option.bind_some _ _).symm.trans H; rw [hy110]; with_reducible exact H2_) | (have H2_ := (Option.bind_some _ _).symm.trans H; with_reducible exact H2_) | with_reducible exact H | (rw [hy110]; exact H) | exact H
           have Ny110 := Aside0.mk hy110; clear hy110
           have H' := Aside0.mk H
           clear H; have hcz28_0 : wr.cell? ⟨gb101, 0, none⟩ = some (.int .i64 a0_0) := (blk_cell BK101.out 0).trans rfl; have hcz28_1 : wr.cell? ⟨gb101, 1, none⟩ = some (.slice A0_1 l0_1.length c0_1) := (blk_cell BK101.out 1).trans rfl; have hfz28_0 := blk_frozen BK101.out 0; have hfz28_1 := blk_frozen BK101.out 1
           have p27 : 0 ≤ ((ji24) : Int) := of_decide_eq_true (by first | (with_reducible assumption) | assumption)
           have q27 : ((ji24) : Int) < ((x5_2.length : Int) : Int) := of_decide_eq_true (by first | (with_reducible assumption) | assumption)
           obtain ⟨go27, co27, eo27, gb27, gl27, cl27, HG27⟩ := Kd.R_form HO_5.out (by omega)
           (first | cases eo27 | (injection eo27 with ea_ en_ ec_; (first | subst ea_ | (injection ea_ with ea_; subst ea_)); subst ec_; clear en_))
           have GB27 := Aside0.mk gb27; have GG27 := Aside0.mk HG27; clear gb27 gl27 HG27
           obtain ⟨hx27_0, hf27_0⟩ := Kd.R_celln false HO_5.out ((ji24) : Int) p27 q27
           replace p27 := eq_true p27
           replace q27 := eq_true q27
           have HP29 := Kd.R_putg HO_5.out ((ji24) : Int) true
           go_wp2_with (first | ((with_reducible refine gate_store (t := 4) (p := 43) rfl ?_); (try (rw [drewN_self wr]; generalize hq_ : World.drewN wr _ = wr; have n0_ := Aside0.mk (Kd.R_at hq_ HO_5.out); have n1_ := Aside0.mk (blk_at hq_ BK101.out); have n2_ := Aside0.mk (below_at hq_ HB.out); clear hq_ HO_5 BK101 HB; have HO_5 := n0_; have BK101 := n1_; have HB := n2_; clear n0_ n1_ n2_; (try (have HP29 := Kd.R_putg HO_5.out ((ji24) : Int) true)); (try (obtain ⟨hx27_0, hf27_0⟩ := Kd.R_celln false HO_5.out ((ji24) : Int) (of_eq_true p27) (of_eq_true q27))))); refine store_event (t := 4) (p := 43) (v := ?vo_w30) (w1 := (wr.setCell ⟨go27, ((ji24) : Int).toNat, none⟩ (.bool true))) ?hg ?ho ?hn ?hr ?_; (case ho => rfl); (case hg => rfl); (case hn => rfl); (case hr => first | (go_simp; done) | (go_simp; rfl)); intro w30 hw; have hg : wr.grownBy w30 (some go27) := (by rw [hw]; exact HP29.2); have hp_ : Kd.R Kd.bool 4 w30 w.heap.size (fun _ => True) (.slice (some ⟨go27, 0, none⟩) x5_2.length co27) y110 := (by rw [hw, Ny110.out]; exact HP29.1); clear HP29; have n0_ := Aside0.mk (hp_); have n1_ := Aside0.mk (blk_grown (g := gb101) (o := .cells #[.int .i64 a0_0, .slice A0_1 l0_1.length c0_1] 29 (0, 0)) (dr BK101) hg (Kd.R_ne HO_5.out BK101.out (by decide))); have n2_ := Aside0.mk ((by rw [hw]; exact below_set (HB.out) GB27.out : Below w.heap.size w w30)); clear HO_5; clear BK101; clear HB; have HO_5 := n0_; have BK101 := n1_; have HB := n2_; clear n0_ n1_ n2_; clear hg hw hp_))
           repeat (go_quiet (first | ((with_reducible refine gate_store (t := 4) (p := 43) rfl ?_); (try (rw [drewN_self wr]; generalize hq_ : World.drewN wr _ = wr; have n0_ := Aside0.mk (Kd.R_at hq_ HO_5.out); have n1_ := Aside0.mk (blk_at hq_ BK101.out); have n2_ := Aside0.mk (below_at hq_ HB.out); clear hq_ HO_5 BK101 HB; have HO_5 := n0_; have BK101 := n1_; have HB := n2_; clear n0_ n1_ n2_; (try (have HP29 := Kd.R_putg HO_5.out ((ji24) : Int) true)); (try (obtain ⟨hx27_0, hf27_0⟩ := Kd.R_celln false HO_5.out ((ji24) : Int) (of_eq_true p27) (of_eq_true q27))))); refine store_event (t := 4) (p := 43) (v := ?vo_w30) (w1 := (wr.setCell ⟨go27, ((ji24) : Int).toNat, none⟩ (.bool true))) ?hg ?ho ?hn ?hr ?_; (case ho => rfl); (case hg => rfl); (case hn => rfl); (case hr => first | (go_simp; done) | (go_simp; rfl)); intro w30 hw; have hg : wr.grownBy w30 (some go27) := (by rw [hw]; exact HP29.2); have hp_ : Kd.R Kd.bool 4 w30 w.heap.size (fun _ => True) (.slice (some ⟨go27, 0, none⟩) x5_2.length co27) y110 := (by rw [hw, Ny110.out]; exact HP29.1); clear HP29; have n0_ := Aside0.mk (hp_); have n1_ := Aside0.mk (blk_grown (g := gb101) (o := .cells #[.int .i64 a0_0, .slice A0_1 l0_1.length c0_1] 29 (0, 0)) (dr BK101) hg (Kd.R_ne HO_5.out BK101.out (by decide))); have n2_ := Aside0.mk ((by rw [hw]; exact below_set (HB.out) GB27.out : Below w.heap.size w w30)); clear HO_5; clear BK101; clear HB; have HO_5 := n0_; have BK101 := n1_; have HB := n2_; clear n0_ n1_ n2_; clear hg hw hp_)); try go_wp2_with (first | ((with_reducible refine gate_store (t := 4) (p := 43) rfl ?_); (try (rw [drewN_self wr]; generalize hq_ : World.drewN wr _ = wr; have n0_ := Aside0.mk (Kd.R_at hq_ HO_5.out); have n1_ := Aside0.mk (blk_at hq_ BK101.out); have n2_ := Aside0.mk (below_at hq_ HB.out); clear hq_ HO_5 BK101 HB; have HO_5 := n0_; have BK101 := n1_; have HB := n2_; clear n0_ n1_ n2_; (try (have HP29 := Kd.R_putg HO_5.out ((ji24) : Int) true)); (try (obtain ⟨hx27_0, hf27_0⟩ := Kd.R_celln false HO_5.out ((ji24) : Int) (of_eq_true p27) (of_eq_true q27))))); refine store_event (t := 4) (p := 43) (v := ?vo_w30) (w1 := (wr.setCell ⟨go27, ((ji24) : Int).toNat, none⟩ (.bool true))) ?hg ?ho ?hn ?hr ?_; (case ho => rfl); (case hg => rfl); (case hn => rfl); (case hr => first | (go_simp; done) | (go_simp; rfl)); intro w30 hw; have hg : wr.grownBy w30 (some go27) := (by rw [hw]; exact HP29.2); have hp_ : Kd.R Kd.bool 4 w30 w.heap.size (fun _ => True) (.slice (some ⟨go27, 0, none⟩) x5_2.length co27) y110 := (by rw [hw, Ny110.out]; exact HP29.1); clear HP29; have n0_ := Aside0.mk (hp_); have n1_ := Aside0.mk (blk_grown (g := gb101) (o := .cells #[.int .i64 a0_0, .slice A0_1 l0_1.length c0_1] 29 (0, 0)) (dr BK101) hg (Kd.R_ne HO_5.out BK101.out (by decide))); have n2_ := Aside0.mk ((by rw [hw]; exact below_set (HB.out) GB27.out : Below w.heap.size w w30)); clear HO_5; clear BK101; clear HB; have HO_5 := n0_; have BK101 := n1_; have HB := n2_; clear n0_ n1_ n2_; clear hg hw hp_)))
           go_meet
           case rel => exact ⟨_, (y110), H', ⟨by have := HJ2.out; have := HK2.out; first | omega | exact Nat.le_refl _⟩, ⟨by (with_reducible repeat (first | apply Kd.R_alloc | apply Kd.R_drewN | apply Kd.R_drew)); exact HO_5.out⟩, ⟨by (with_reducible repeat (first | refine blk_drewN ?_ _ | refine blk_drew ?_ | refine blk_alloc ?_ _)); exact BK101.out⟩, ⟨by repeat (first | (with_reducible first | exact HB.out | apply below_alloc | apply pw_below_drewN | apply below_drew1 | refine below_set ?_ GE101.out) | exact HB.out)⟩⟩
          ·rw [if_neg c26] at H
           exact absurd H (by simp)
         ·rw [if_neg c25] at H
          exact absurd H (by simp)
        ·rw [if_neg c23] at H
         have c23b0 : decide (a0_0 < (wrap64 (Int.tdiv a1 2))) = false := decide_eq_false c23; clear c23
         (first | rw [c23b0] | (simp only [i64_w, i32_w]; rw [c23b0]) | skip)
         have H' := Aside0.mk H
         clear H
         go_wp2
         repeat (go_quiet (fail); try go_wp2)
         go_meet
         case rel => exact ⟨_, (x5_2), H', ⟨by have := HJ2.out; have := HK2.out; first | omega | exact Nat.le_refl _⟩, ⟨by (with_reducible repeat (first | apply Kd.R_alloc | apply Kd.R_drewN | apply Kd.R_drew)); exact HO_5.out⟩, ⟨by (with_reducible repeat (first | refine blk_drewN ?_ _ | refine blk_drew ?_ | refine blk_alloc ?_ _)); exact BK101.out⟩, ⟨by repeat (first | (with_reducible first | exact HB.out | apply below_alloc | apply pw_below_drewN | apply below_drew1 | refine below_set ?_ GE101.out) | exact HB.out)⟩⟩
       case rest =>
        clear HC21
        (try clear c1); (try clear c2); (try clear p2); (try clear q2); (try clear hx2); (try clear hf2); (try clear c6); (try clear p6); (try clear c14); (try clear c17); (try clear c17b0); (try clear c18); (try clear c20); (try clear c23); (try clear c23b0); (try clear c25); (try clear c25b0); (try clear c26); (try clear c26b0); (try clear p27); (try clear q27); (try clear hx27); (try clear hf27); (try clear hcz10_0); (try clear hcz10_1); (try clear hcz12_0); (try clear hcz12_1); (try clear hcz19_0); (try clear hcz19_1); (try clear hcz22_0); (try clear hcz22_1); (try clear hcz28_0); (try clear hcz28_1); (try clear hcz8_0); (try clear hcz8_1); (try clear hfz10_0); (try clear hfz10_1); (try clear hfz12_0); (try clear hfz12_1); (try clear hfz19_0); (try clear hfz19_1); (try clear hfz22_0); (try clear hfz22_1); (try clear hfz28_0); (try clear hfz28_1); (try clear hfz8_0); (try clear hfz8_1); (try clear hx27_0); (try clear p2); (try clear p27); (try clear q27)
        obtain ⟨kq, x5_20, HA, HJ20, HO_5, BK101, HB⟩ := hcut
        cases kq with
                | zero => exact absurd HA.out (by simp [spec_GraphSize.j2])
                | succ kj20 =>
         have H := HA.out; clear HA
         simp only [spec_GraphSize.j2] at H
         have H' := Aside0.mk H
         clear H; have hcz31_0 : wc.cell? ⟨gb101, 0, none⟩ = some (.int .i64 a0_0) := (blk_cell BK101.out 0).trans rfl; have hcz31_1 : wc.cell? ⟨gb101, 1, none⟩ = some (.slice A0_1 l0_1.length c0_1) := (blk_cell BK101.out 1).trans rfl; have hfz31_0 := blk_frozen BK101.out 0; have hfz31_1 := blk_frozen BK101.out 1
         go_wp2
         repeat (go_quiet (fail); try go_wp2)
         go_loopg [7, 8] kj20 (fun kq v7 v8 w' => ∃ (x5_4 : List Bool) (x7_4 : Int) (x8_4 : Int), v7 = .int .i64 x7_4 ∧ v8 = .int .i64 x8_4 ∧ Aside0 (spec_GraphSize.l1 kq x5_4 x7_4 x8_4 a0_0 l0_1 = some r) ∧ Aside0 (kq ≤ kj20) ∧ Aside0 (Kd.R Kd.bool 4 w' w.heap.size (fun _ => True) u5 x5_4) ∧ Aside0 (w'.heap[gb101]? = some (.cells #[.int .i64 a0_0, (.slice A0_1 l0_1.length c0_1)] 29 (0, 0))) ∧ Aside0 (Below w.heap.size w w'))
         case atStart => exact ⟨(x5_20), (0), (wrap64 ((l0_1.length : Int) - 1)), (by first | rfl | (simp; done) | (simp [*]; done)), (by first | rfl | (simp; done) | (simp [*]; done)), H', ⟨Nat.le_refl _⟩, ⟨by (with_reducible repeat (first | apply Kd.R_alloc | apply Kd.R_drewN | apply Kd.R_drew)); exact HO_5.out⟩, ⟨by (with_reducible repeat (first | refine blk_drewN ?_ _ | refine blk_drew ?_ | refine blk_alloc ?_ _)); exact BK101.out⟩, ⟨by repeat (first | (with_reducible first | exact HB.out | apply below_alloc | apply pw_below_drewN | apply below_drew1 | refine below_set ?_ GE101.out) | exact HB.out)⟩⟩
         case round =>
          clear H'
          (try clear c1); (try clear c2); (try clear p2); (try clear q2); (try clear hx2); (try clear hf2); (try clear c6); (try clear p6); (try clear c14); (try clear c17); (try clear c17b0); (try clear c18); (try clear c20); (try clear c23); (try clear c23b0); (try clear c25); (try clear c25b0); (try clear c26); (try clear c26b0); (try clear p27); (try clear q27); (try clear hx27); (try clear hf27); (try clear hcz10_0); (try clear hcz10_1); (try clear hcz12_0); (try clear hcz12_1); (try clear hcz19_0); (try clear hcz19_1); (try clear hcz22_0); (try clear hcz22_1); (try clear hcz28_0); (try clear hcz28_1); (try clear hcz31_0); (try clear hcz31_1); (try clear hcz8_0); (try clear hcz8_1); (try clear hfz10_0); (try clear hfz10_1); (try clear hfz12_0); (try clear hfz12_1); (try clear hfz19_0); (try clear hfz19_1); (try clear hfz22_0); (try clear hfz22_1); (try clear hfz28_0); (try clear hfz28_1); (try clear hfz31_0); (try clear hfz31_1); (try clear hfz8_0); (try clear hfz8_1); (try clear hx27_0); (try clear p2); (try clear p27); (try clear p6); (try clear q2); (try clear q27)
          obtain ⟨x5_4, x7_4, x8_4, rfl, rfl, HA, HK4, HO_5, BK101, HB⟩ := hrel
          cases gk with
                    | zero => exact absurd HA.out (by simp [spec_GraphSize.l1])
                    | succ k4 =>
           have H := HA.out; clear HA
           simp only [spec_GraphSize.l1] at H
           by_cases c32 : x8_4 ≥ 0
           ·rw [if_pos c32] at H
            have c32b0 : decide (0 ≤ x8_4) = true := decide_eq_true c32; clear c32
            by_cases c33 : 0 ≤ x8_4
            ·rw [if_pos c33] at H
             have c33b0 : decide (0 ≤ x8_4) = true := decide_eq_true c33; clear c33
             by_cases c34 : x8_4 < (x5_4.length : Int)
             ·rw [if_pos c34] at H
              have c34b0 : decide (x8_4 < (x5_4.length : Int)) = true := decide_eq_true c34; clear c34
              obtain ⟨bq35, hbq35⟩ : ∃ b_ : Bool, b_ = (rdOf false x5_4 x8_4) := ⟨_, rfl⟩
              replace H : (if bq35 = true then (if x8_4 < (l0_1.length : Int) then (if (wrap64 ((wrap64 ((wrap64 (Int.tdiv ((rd_T79 l0_1 x8_4).f0) 2)) - a0_0)) - 1)) ≥ 0 then (if 0 ≤ (wrap64 ((wrap64 ((wrap64 (Int.tdiv ((rd_T79 l0_1 x8_4).f0) 2)) - a0_0)) - 1)) then (if (wrap64 ((wrap64 ((wrap64 (Int.tdiv ((rd_T79 l0_1 x8_4).f0) 2)) - a0_0)) - 1)) < (x5_4.length : Int) then ((some (x5_4.set ((wrap64 ((wrap64 ((wrap64 (Int.tdiv ((rd_T79 l0_1 x8_4).f0) 2)) - a0_0)) - 1)) : Int).toNat true : List Bool)).bind fun y114 => (if (wrap64 ((wrap64 ((wrap64 (Int.tdiv ((rd_T79 l0_1 x8_4).f1) 2)) - a0_0)) - 1)) ≥ 0 then (if 0 ≤ (wrap64 ((wrap64 ((wrap64 (Int.tdiv ((rd_T79 l0_1 x8_4).f1) 2)) - a0_0)) - 1)) then (if (wrap64 ((wrap64 ((wrap64 (Int.tdiv ((rd_T79 l0_1 x8_4).f1) 2)) - a0_0)) - 1)) < (x5_4.length : Int) then (spec_GraphSize.l1 k4 (y114.set ((wrap64 ((wrap64 ((wrap64 (Int.tdiv ((rd_T79 l0_1 x8_4).f1) 2)) - a0_0)) - 1)) : Int).toNat true) (wrap64 (x7_4 + 1)) (wrap64 (x8_4 - 1)) a0_0 l0_1) else (none)) else (none)) else (spec_GraphSize.l1 k4 y114 (wrap64 (x7_4 + 1)) (wrap64 (x8_4 - 1)) a0_0 l0_1))) else (none)) else (none)) else (if (wrap64 ((wrap64 ((wrap64 (Int.tdiv ((rd_T79 l0_1 x8_4).f1) 2)) - a0_0)) - 1)) ≥ 0 then (if 0 ≤ (wrap64 ((wrap64 ((wrap64 (Int.tdiv ((rd_T79 l0_1 x8_4).f1) 2)) - a0_0)) - 1)) then (if (wrap64 ((wrap64 ((wrap64 (Int.tdiv ((rd_T79 l0_1 x8_4).f1) 2)) - a0_0)) - 1)) < (x5_4.length : Int) then (spec_GraphSize.l1 k4 (x5_4.set ((wrap64 ((wrap64 ((wrap64 (Int.tdiv ((rd_T79 l0_1 x8_4).f1) 2)) - a0_0)) - 1)) : Int).toNat true) (wrap64 (x7_4 + 1)) (wrap64 (x8_4 - 1)) a0_0 l0_1) else (none)) else (none)) else (spec_GraphSize.l1 k4 x5_4 (wrap64 (x7_4 + 1)) (wrap64 (x8_4 - 1)) a0_0 l0_1))) else (none)) else (spec_GraphSize.l1 k4 x5_4 x7_4 (wrap64 (x8_4 - 1)) a0_0 l0_1)) = some r := by rw [← hbq35] at H; exact H
              have Nbq35 := Aside0.mk hbq35; clear hbq35
              by_cases c36 : bq35 = true
              ·subst c36
               have H1 : (if x8_4 < (l0_1.length : Int) then (if (wrap64 ((wrap64 ((wrap64 (Int.tdiv ((rd_T79 l0_1 x8_4).f0) 2)) - a0_0)) - 1)) ≥ 0 then (if 0 ≤ (wrap64 ((wrap64 ((wrap64 (Int.tdiv ((rd_T79 l0_1 x8_4).f0) 2)) - a0_0)) - 1)) then (if (wrap64 ((wrap64 ((wrap64 (Int.tdiv ((rd_T79 l0_1 x8_4).f0) 2)) - a0_0)) - 1)) < (x5_4.length : Int) then ((some (x5_4.set ((wrap64 ((wrap64 ((wrap64 (Int.tdiv ((rd_T79 l0_1 x8_4).f0) 2)) - a0_0)) - 1)) : Int).toNat true : List Bool)).bind fun y114 => (if (wrap64 ((wrap64 ((wrap64 (Int.tdiv ((rd_T79 l0_1 x8_4).f1) 2)) - a0_0)) - 1)) ≥ 0 then (if 0 ≤ (wrap64 ((wrap64 ((wrap64 (Int.tdiv ((rd_T79 l0_1 x8_4).f1) 2)) - a0_0)) - 1)) then (if (wrap64 ((wrap64 ((wrap64 (Int.tdiv ((rd_T79 l0_1 x8_4).f1) 2)) - a0_0)) - 1)) < (x5_4.length : Int) then (spec_GraphSize.l1 k4 (y114.set ((wrap64 ((wrap64 ((wrap64 (Int.tdiv ((rd_T79 l0_1 x8_4).f1) 2)) - a0_0)) - 1)) : Int).toNat true) (wrap64 (x7_4 + 1)) (wrap64 (x8_4 - 1)) a0_0 l0_1) else (none)) else (none)) else (spec_GraphSize.l1 k4 y114 (wrap64 (x7_4 + 1)) (wrap64 (x8_4 - 1)) a0_0 l0_1))) else (none)) else (none)) else (if (wrap64 ((wrap64 ((wrap64 (Int.tdiv ((rd_T79 l0_1 x8_4).f1) 2)) - a0_0)) - 1)) ≥ 0 then (if 0 ≤ (wrap64 ((wrap64 ((wrap64 (Int.tdiv ((rd_T79 l0_1 x8_4).f1) 2)) - a0_0)) - 1)) then (if (wrap64 ((wrap64 ((wrap64 (Int.tdiv ((rd_T79 l0_1 x8_4).f1) 2)) - a0_0)) - 1)) < (x5_4.length : Int) then (spec_GraphSize.l1 k4 (x5_4.set ((wrap64 ((wrap64 ((wrap64 (Int.tdiv ((rd_T79 l0_1 x8_4).f1) 2)) - a0_0)) - 1)) : Int).toNat true) (wrap64 (x7_4 + 1)) (wrap64 (x8_4 - 1)) a0_0 l0_1) else (none)) else (none)) else (spec_GraphSize.l1 k4 x5_4 (wrap64 (x7_4 + 1)) (wrap64 (x8_4 - 1)) a0_0 l0_1))) else (none)) = some r := by rw [if_pos rfl] at H; exact H
               clear H; have H := H1; clear H1
               by_cases c37 : x8_4 < (l0_1.length : Int)
               ·rw [if_pos c37] at H
                have c37b0 : decide (x8_4 < (l0_1.length : Int)) = true := decide_eq_true c37; clear c37
                by_cases c38 : (wrap64 ((wrap64 ((wrap64 (Int.tdiv ((rd_T79 l0_1 x8_4).f0) 2)) - a0_0)) - 1)) ≥ 0
                ·rw [if_pos c38] at H
                 have c38b0 : decide (0 ≤ (wrap64 ((wrap64 ((wrap64 (Int.tdiv ((rd_T79 l0_1 x8_4).f0) 2)) - a0_0)) - 1))) = true := decide_eq_true c38; clear c38
                 obtain ⟨ji39, hji39⟩ : ∃ j_ : Int, (wrap64 ((wrap64 ((wrap64 (Int.tdiv ((rd_T79 l0_1 x8_4).f0) 2)) - a0_0)) - 1)) = j_ := ⟨_, rfl⟩
                 replace H : (if 0 ≤ (ji39) then (if (ji39) < (x5_4.length : Int) then ((some (x5_4.set ((ji39) : Int).toNat true : List Bool)).bind fun y114 => (if (wrap64 ((wrap64 ((wrap64 (Int.tdiv ((rd_T79 l0_1 x8_4).f1) 2)) - a0_0)) - 1)) ≥ 0 then (if 0 ≤ (wrap64 ((wrap64 ((wrap64 (Int.tdiv ((rd_T79 l0_1 x8_4).f1) 2)) - a0_0)) - 1)) then (if (wrap64 ((wrap64 ((wrap64 (Int.tdiv ((rd_T79 l0_1 x8_4).f1) 2)) - a0_0)) - 1)) < (x5_4.length : Int) then (spec_GraphSize.l1 k4 (y114.set ((wrap64 ((wrap64 ((wrap64 (Int.tdiv ((rd_T79 l0_1 x8_4).f1) 2)) - a0_0)) - 1)) : Int).toNat true) (wrap64 (x7_4 + 1)) (wrap64 (x8_4 - 1)) a0_0 l0_1) else (none)) else (none)) else (spec_GraphSize.l1 k4 y114 (wrap64 (x7_4 + 1)) (wrap64 (x8_4 - 1)) a0_0 l0_1))) else (none)) else (none)) = some r := by first | (rw [hji39] at H; exact H) | (simp only [hji39] at H ⊢; exact H)
                 (try rw [hji39] at c38b0)
                 have hji39w : (IntKind.i64.wrap ((wrap64 ((wrap64 (Int.tdiv ((rd_T79 l0_1 x8_4).f0) 2)) - a0_0)) - 1)) = ji39 := (i64_w _).trans hji39
                 by_cases c40 : 0 ≤ (ji39)
                 ·rw [if_pos c40] at H
                  have c40b0 : decide (0 ≤ (ji39)) = true := decide_eq_true c40; clear c40
                  by_cases c41 : (ji39) < (x5_4.length : Int)
                  ·rw [if_pos c41] at H
                   have c41b0 : decide ((ji39) < (x5_4.length : Int)) = true := decide_eq_true c41; clear c41
                   obtain ⟨y114, hy114⟩ : ∃ y_ : List Bool, y_ = (x5_4.set ((ji39) : Int).toNat true) := ⟨_, rfl⟩
                   replace H : (if (wrap64 ((wrap64 ((wrap64 (Int.tdiv ((rd_T79 l0_1 x8_4).f1) 2)) - a0_0)) - 1)) ≥ 0 then (if 0 ≤ (wrap64 ((wrap64 ((wrap64 (Int.tdiv ((rd_T79 l0_1 x8_4).f1) 2)) - a0_0)) - 1)) then (if (wrap64 ((wrap64 ((wrap64 (Int.tdiv ((rd_T79 l0_1 x8_4).f1) 2)) - a0_0)) - 1)) < (x5_4.length : Int) then (spec_GraphSize.l1 k4 (y114.set ((wrap64 ((wrap64 ((wrap64 (Int.tdiv ((rd_T79 l0_1 x8_4).f1) 2)) - a0_0)) - 1)) : Int).toNat true) (wrap64 (x7_4 + 1)) (wrap64 (x8_4 - 1)) a0_0 l0_1) else (none)) else (none)) else (spec_GraphSize.l1 k4 y114 (wrap64 (x7_4 + 1)) (wrap64 (x8_4 - 1)) a0_0 l0_1)) = some r := by first | (rw [hy114]; with_reducible exact H) | (have H2_ := (Option.bind_some _ _).symm.trans H; rw [hy114]; with_reducible exact H2_) | (have H2_ := (Option.bind_some _ _).symm.trans H; with_reducible exact H2_) | with_reducible exact H | (rw [hy114]; exact H) | exact H
                   have Ny114 := Aside0.mk hy114; clear hy114
                   by_cases c43 : (wrap64 ((wrap64 ((wrap64 (Int.tdiv ((rd_T79 l0_1 x8_4).f1) 2)) - a0_0)) - 1)) ≥ 0
                   ·rw [if_pos c43] at H
                    have c43b0 : decide (0 ≤ (wrap64 ((wrap64 ((wrap64 (Int.tdiv ((rd_T79 l0_1 x8_4).f1) 2)) - a0_0)) - 1))) = true := decide_eq_true c43; clear c43
                    obtain ⟨ji44, hji44⟩ : ∃ j_ : Int, (wrap64 ((wrap64 ((wrap64 (Int.tdiv ((rd_T79 l0_1 x8_4).f1) 2)) - a0_0)) - 1)) = j_ := ⟨_, rfl⟩
                    replace H : (if 0 ≤ (ji44) then (if (ji44) < (x5_4.length : Int) then (spec_GraphSize.l1 k4 (y114.set ((ji44) : Int).toNat true) (wrap64 (x7_4 + 1)) (wrap64 (x8_4 - 1)) a0_0 l0_1) else (none)) else (none)) = some r := by first | (rw [hji44] at H; exact H) | (simp only [hji44] at H ⊢; exact H)
                    (try rw [hji44] at c43b0)
                    have hji44w : (IntKind.i64.wrap ((wrap64 ((wrap64 (Int.tdiv ((rd_T79 l0_1 x8_4).f1) 2)) - a0_0)) - 1)) = ji44 := (i64_w _).trans hji44
                    by_cases c45 : 0 ≤ (ji44)
                    ·rw [if_pos c45] at H
                     have c45b0 : decide (0 ≤ (ji44)) = true := decide_eq_true c45; clear c45
                     by_cases c46 : (ji44) < (x5_4.length : Int)
                     ·rw [if_pos c46] at H
                      have c46b0 : decide ((ji44) < (x5_4.length : Int)) = true := decide_eq_true c46; clear c46
                      obtain ⟨y115, hy115⟩ : ∃ y_ : List Bool, y_ = (y114.set ((ji44) : Int).toNat true) := ⟨_, rfl⟩
                      replace H : (spec_GraphSize.l1 k4 y115 (wrap64 (x7_4 + 1)) (wrap64 (x8_4 - 1)) a0_0 l0_1) = some r := by first | (rw [hy115]; with_reducible exact H) | (have H2_ := (Option.bind_some _ _).symm.trans H; rw [hy115]; with_reducible exact H2_) | (have H2_ := (Option.bind_some _ _).symm.trans H; with_reducible exact H2_) | with_reducible exact H | (rw [hy115]; exact H) | exact H
                      have Ny115 := Aside0.mk hy115; clear hy115
                      have H' := Aside0.mk H
                      clear H
                      obtain ⟨Ao48, co48, eo48⟩ := Kd.R_slice HO_5.out
                      subst eo48
                      have p111 : 0 ≤ (x8_4 : Int) := of_decide_eq_true (by first | (with_reducible assumption) | assumption)
                      have q111 : x8_4 < (x5_4.length : Int) := of_decide_eq_true (by first | (with_reducible assumption) | assumption)
                      obtain ⟨ad111, e111, hx111_0⟩ := Kd.at_bool (Kd.R_reads' HO_5.out).2.2 x8_4 p111 q111
                      (try rw [← Nbq35.out] at hx111_0)
                      cases e111
                      replace p111 := eq_true p111
                      replace q111 := eq_true q111
                      have hcz49_0 : wr.cell? ⟨gb101, 0, none⟩ = some (.int .i64 a0_0) := (blk_cell BK101.out 0).trans rfl; have hcz49_1 : wr.cell? ⟨gb101, 1, none⟩ = some (.slice A0_1 l0_1.length c0_1) := (blk_cell BK101.out 1).trans rfl; have hfz49_0 := blk_frozen BK101.out 0; have hfz49_1 := blk_frozen BK101.out 1
                      have p112 : 0 ≤ (x8_4 : Int) := of_decide_eq_true (by first | (with_reducible assumption) | assumption)
                      have q112 : x8_4 < (l0_1.length : Int) := of_decide_eq_true (by first | (with_reducible assumption) | assumption)
                      obtain ⟨ad112, e112, hx112_0, hx112_1⟩ := at_T79 HR0_1.out x8_4 p112 q112
                      cases e112
                      replace hx112_0 := (HB.out.cell (World.block_lt_of_cell? w _ hx112_0)).trans hx112_0
                      replace hx112_1 := (HB.out.cell (World.block_lt_of_cell? w _ hx112_1)).trans hx112_1
                      replace p112 := eq_true p112
                      replace q112 := eq_true q112
                      have p113 : 0 ≤ (x8_4 : Int) := of_decide_eq_true (by first | (with_reducible assumption) | assumption)
                      have q113 : x8_4 < (l0_1.length : Int) := of_decide_eq_true (by first | (with_reducible assumption) | assumption)
                      obtain ⟨ad113, e113, hx113_0, hx113_1⟩ := at_T79 HR0_1.out x8_4 p113 q113
                      obtain rfl : ad112 = ad113 := (by injection e113)
                      replace hx113_0 := (HB.out.cell (World.block_lt_of_cell? w _ hx113_0)).trans hx113_0
                      replace hx113_1 := (HB.out.cell (World.block_lt_of_cell? w _ hx113_1)).trans hx113_1
                      replace p113 := eq_true p113
                      replace q113 := eq_true q113
                      have p42 : 0 ≤ ((ji39) : Int) := of_decide_eq_true (by first | (with_reducible assumption) | assumption)
                      have q42 : ((ji39) : Int) < ((x5_4.length : Int) : Int) := of_decide_eq_true (by first | (with_reducible assumption) | assumption)
                      obtain ⟨go42, co42, eo42, gb42, gl42, cl42, HG42⟩ := Kd.R_form HO_5.out (by omega)
                      (first | cases eo42 | (injection eo42 with ea_ en_ ec_; (first | subst ea_ | (injection ea_ with ea_; subst ea_)); subst ec_; clear en_))
                      have GB42 := Aside0.mk gb42; have GG42 := Aside0.mk HG42; clear gb42 gl42 HG42
                      (first | simp only [add_plain] at hx111_0 | skip)
                      obtain ⟨hx42_0, hf42_0⟩ := Kd.R_celln false HO_5.out ((ji39) : Int) p42 q42
                      replace p42 := eq_true p42
                      replace q42 := eq_true q42
                      have HP50 := Kd.R_putg HO_5.out ((ji39) : Int) true
                      go_wp2_with (first | ((with_reducible refine gate_store (t := 4) (p := 85) rfl ?_); (try (rw [drewN_self wr]; generalize hq_ : World.drewN wr _ = wr; have n0_ := Aside0.mk (Kd.R_at hq_ HO_5.out); have n1_ := Aside0.mk (blk_at hq_ BK101.out); have n2_ := Aside0.mk (below_at hq_ HB.out); clear hq_ HO_5 BK101 HB; have HO_5 := n0_; have BK101 := n1_; have HB := n2_; clear n0_ n1_ n2_; (try (have HP50 := Kd.R_putg HO_5.out ((ji39) : Int) true)); (try (obtain ⟨hx42_0, hf42_0⟩ := Kd.R_celln false HO_5.out ((ji39) : Int) (of_eq_true p42) (of_eq_true q42))))); refine store_event (t := 4) (p := 85) (v := ?vo_w51) (w1 := (wr.setCell ⟨go42, ((ji39) : Int).toNat, none⟩ (.bool true))) ?hg ?ho ?hn ?hr ?_; (case ho => rfl); (case hg => rfl); (case hn => rfl); (case hr => first | (go_simp; done) | (go_simp; rfl)); intro w51 hw; have hg : wr.grownBy w51 (some go42) := (by rw [hw]; exact HP50.2); have hp_ : Kd.R Kd.bool 4 w51 w.heap.size (fun _ => True) (.slice (some ⟨go42, 0, none⟩) x5_4.length co48) y114 := (by rw [hw, Ny114.out]; exact HP50.1); clear HP50; have n0_ := Aside0.mk (hp_); have n1_ := Aside0.mk (blk_grown (g := gb101) (o := .cells #[.int .i64 a0_0, .slice (some ad112) l0_1.length c0_1] 29 (0, 0)) (dr BK101) hg (Kd.R_ne HO_5.out BK101.out (by decide))); have n2_ := Aside0.mk ((by rw [hw]; exact below_set (HB.out) GB42.out : Below w.heap.size w w51)); clear HO_5; clear BK101; clear HB; have HO_5 := n0_; have BK101 := n1_; have HB := n2_; clear n0_ n1_ n2_; clear hg hw hp_; have p47 : 0 ≤ ((ji44) : Int) := of_decide_eq_true (by first | (with_reducible assumption) | assumption); have q47 : ((ji44) : Int) < ((x5_4.length : Int) : Int) := of_decide_eq_true (by first | (with_reducible assumption) | assumption); obtain ⟨hx47_0, hf47_0⟩ := Kd.R_celln false HO_5.out ((ji44) : Int) p47 q47; replace p47 := eq_true p47; replace q47 := eq_true q47; obtain ⟨hy52_, hz52_⟩ := Kd.R_celln false HO_5.out ((ji44) : Int) (of_decide_eq_true (by first | (with_reducible assumption) | assumption)) (of_decide_eq_true (by first | (with_reducible assumption) | assumption)); have HP52 := Kd.R_putg HO_5.out ((ji44) : Int) true) | ((with_reducible refine gate_store (t := 4) (p := 90) rfl ?_); (try (rw [drewN_self w51]; generalize hq_ : World.drewN w51 _ = w51; have n0_ := Aside0.mk (Kd.R_at hq_ HO_5.out); have n1_ := Aside0.mk (blk_at hq_ BK101.out); have n2_ := Aside0.mk (below_at hq_ HB.out); clear hq_ HO_5 BK101 HB; have HO_5 := n0_; have BK101 := n1_; have HB := n2_; clear n0_ n1_ n2_; (try (obtain ⟨hy52_, hz52_⟩ := Kd.R_celln false HO_5.out ((ji44) : Int) (of_decide_eq_true (by first | (with_reducible assumption) | assumption)) (of_decide_eq_true (by first | (with_reducible assumption) | assumption)))); (try (have HP52 := Kd.R_putg HO_5.out ((ji44) : Int) true)))); refine store_event (t := 4) (p := 90) (v := ?vo_w53) (w1 := (w51.setCell ⟨go42, ((ji44) : Int).toNat, none⟩ (.bool true))) ?hg ?ho ?hn ?hr ?_; (case ho => rfl); (case hg => rfl); (case hn => rfl); (case hr => first | (go_simp; done) | (go_simp; rfl)); intro w53 hw; have hg : w51.grownBy w53 (some go42) := (by rw [hw]; exact HP52.2); have hp_ : Kd.R Kd.bool 4 w53 w.heap.size (fun _ => True) (.slice (some ⟨go42, 0, none⟩) x5_4.length co48) y115 := (by rw [hw, Ny115.out]; exact HP52.1); clear HP52; have n0_ := Aside0.mk (hp_); have n1_ := Aside0.mk (blk_grown (g := gb101) (o := .cells #[.int .i64 a0_0, .slice (some ad112) l0_1.length c0_1] 29 (0, 0)) (dr BK101) hg (Kd.R_ne HO_5.out BK101.out (by decide))); have n2_ := Aside0.mk ((by rw [hw]; exact below_set (HB.out) GB42.out : Below w.heap.size w w53)); clear HO_5; clear BK101; clear HB; have HO_5 := n0_; have BK101 := n1_; have HB := n2_; clear n0_ n1_ n2_; clear hg hw hp_))
                      repeat (go_quiet (first | ((with_reducible refine gate_store (t := 4) (p := 85) rfl ?_); (try (rw [drewN_self wr]; generalize hq_ : World.drewN wr _ = wr; have n0_ := Aside0.mk (Kd.R_at hq_ HO_5.out); have n1_ := Aside0.mk (blk_at hq_ BK101.out); have n2_ := Aside0.mk (below_at hq_ HB.out); clear hq_ HO_5 BK101 HB; have HO_5 := n0_; have BK101 := n1_; have HB := n2_; clear n0_ n1_ n2_; (try (have HP50 := Kd.R_putg HO_5.out ((ji39) : Int) true)); (try (obtain ⟨hx42_0, hf42_0⟩ := Kd.R_celln false HO_5.out ((ji39) : Int) (of_eq_true p42) (of_eq_true q42))))); refine store_event (t := 4) (p := 85) (v := ?vo_w51) (w1 := (wr.setCell ⟨go42, ((ji39) : Int).toNat, none⟩ (.bool true))) ?hg ?ho ?hn ?hr ?_; (case ho => rfl); (case hg => rfl); (case hn => rfl); (case hr => first | (go_simp; done) | (go_simp; rfl)); intro w51 hw; have hg : wr.grownBy w51 (some go42) := (by rw [hw]; exact HP50.2); have hp_ : Kd.R Kd.bool 4 w51 w.heap.size (fun _ => True) (.slice (some ⟨go42, 0, none⟩) x5_4.length co48) y114 := (by rw [hw, Ny114.out]; exact HP50.1); clear HP50; have n0_ := Aside0.mk (hp_); have n1_ := Aside0.mk (blk_grown (g := gb101) (o := .cells #[.int .i64 a0_0, .slice (some ad112) l0_1.length c0_1] 29 (0, 0)) (dr BK101) hg (Kd.R_ne HO_5.out BK101.out (by decide))); have n2_ := Aside0.mk ((by rw [hw]; exact below_set (HB.out) GB42.out : Below w.heap.size w w51)); clear HO_5; clear BK101; clear HB; have HO_5 := n0_; have BK101 := n1_; have HB := n2_; clear n0_ n1_ n2_; clear hg hw hp_; have p47 : 0 ≤ ((ji44) : Int) := of_decide_eq_true (by first | (with_reducible assumption) | assumption); have q47 : ((ji44) : Int) < ((x5_4.length : Int) : Int) := of_decide_eq_true (by first | (with_reducible assumption) | assumption); obtain ⟨hx47_0, hf47_0⟩ := Kd.R_celln false HO_5.out ((ji44) : Int) p47 q47; replace p47 := eq_true p47; replace q47 := eq_true q47; obtain ⟨hy52_, hz52_⟩ := Kd.R_celln false HO_5.out ((ji44) : Int) (of_decide_eq_true (by first | (with_reducible assumption) | assumption)) (of_decide_eq_true (by first | (with_reducible assumption) | assumption)); have HP52 := Kd.R_putg HO_5.out ((ji44) : Int) true) | ((with_reducible refine gate_store (t := 4) (p := 90) rfl ?_); (try (rw [drewN_self w51]; generalize hq_ : World.drewN w51 _ = w51; have n0_ := Aside0.mk (Kd.R_at hq_ HO_5.out); have n1_ := Aside0.mk (blk_at hq_ BK101.out); have n2_ := Aside0.mk (below_at hq_ HB.out); clear hq_ HO_5 BK101 HB; have HO_5 := n0_; have BK101 := n1_; have HB := n2_; clear n0_ n1_ n2_; (try (obtain ⟨hy52_, hz52_⟩ := Kd.R_celln false HO_5.out ((ji44) : Int) (of_decide_eq_true (by first | (with_reducible assumption) | assumption)) (of_decide_eq_true (by first | (with_reducible assumption) | assumption)))); (try (have HP52 := Kd.R_putg HO_5.out ((ji44) : Int) true)))); refine store_event (t := 4) (p := 90) (v := ?vo_w53) (w1 := (w51.setCell ⟨go42, ((ji44) : Int).toNat, none⟩ (.bool true))) ?hg ?ho ?hn ?hr ?_; (case ho => rfl); (case hg => rfl); (case hn => rfl); (case hr => first | (go_simp; done) | (go_simp; rfl)); intro w53 hw; have hg : w51.grownBy w53 (some go42) := (by rw [hw]; exact HP52.2); have hp_ : Kd.R Kd.bool 4 w53 w.heap.size (fun _ => True) (.slice (some ⟨go42, 0, none⟩) x5_4.length co48) y115 := (by rw [hw, Ny115.out]; exact HP52.1); clear HP52; have n0_ := Aside0.mk (hp_); have n1_ := Aside0.mk (blk_grown (g := gb101) (o := .cells #[.int .i64 a0_0, .slice (some ad112) l0_1.length c0_1] 29 (0, 0)) (dr BK101) hg (Kd.R_ne HO_5.out BK101.out (by decide))); have n2_ := Aside0.mk ((by rw [hw]; exact below_set (HB.out) GB42.out : Below w.heap.size w w53)); clear HO_5; clear BK101; clear HB; have HO_5 := n0_; have BK101 := n1_; have HB := n2_; clear n0_ n1_ n2_; clear hg hw hp_)); try go_wp2_with (first | ((with_reducible refine gate_store (t := 4) (p := 85) rfl ?_); (try (rw [drewN_self wr]; generalize hq_ : World.drewN wr _ = wr; have n0_ := Aside0.mk (Kd.R_at hq_ HO_5.out); have n1_ := Aside0.mk (blk_at hq_ BK101.out); have n2_ := Aside0.mk (below_at hq_ HB.out); clear hq_ HO_5 BK101 HB; have HO_5 := n0_; have BK101 := n1_; have HB := n2_; clear n0_ n1_ n2_; (try (have HP50 := Kd.R_putg HO_5.out ((ji39) : Int) true)); (try (obtain ⟨hx42_0, hf42_0⟩ := Kd.R_celln false HO_5.out ((ji39) : Int) (of_eq_true p42) (of_eq_true q42))))); refine store_event (t := 4) (p := 85) (v := ?vo_w51) (w1 := (wr.setCell ⟨go42, ((ji39) : Int).toNat, none⟩ (.bool true))) ?hg ?ho ?hn ?hr ?_; (case ho => rfl); (case hg => rfl); (case hn => rfl); (case hr => first | (go_simp; done) | (go_simp; rfl)); intro w51 hw; have hg : wr.grownBy w51 (some go42) := (by rw [hw]; exact HP50.2); have hp_ : Kd.R Kd.bool 4 w51 w.heap.size (fun _ => True) (.slice (some ⟨go42, 0, none⟩) x5_4.length co48) y114 := (by rw [hw, Ny114.out]; exact HP50.1); clear HP50; have n0_ := Aside0.mk (hp_); have n1_ := Aside0.mk (blk_grown (g := gb101) (o := .cells #[.int .i64 a0_0, .slice (some ad112) l0_1.length c0_1] 29 (0, 0)) (dr BK101) hg (Kd.R_ne HO_5.out BK101.out (by decide))); have n2_ := Aside0.mk ((by rw [hw]; exact below_set (HB.out) GB42.out : Below w.heap.size w w51)); clear HO_5; clear BK101; clear HB; have HO_5 := n0_; have BK101 := n1_; have HB := n2_; clear n0_ n1_ n2_; clear hg hw hp_; have p47 : 0 ≤ ((ji44) : Int) := of_decide_eq_true (by first | (with_reducible assumption) | assumption); have q47 : ((ji44) : Int) < ((x5_4.length : Int) : Int) := of_decide_eq_true (by first | (with_reducible assumption) | assumption); obtain ⟨hx47_0, hf47_0⟩ := Kd.R_celln false HO_5.out ((ji44) : Int) p47 q47; replace p47 := eq_true p47; replace q47 := eq_true q47; obtain ⟨hy52_, hz52_⟩ := Kd.R_celln false HO_5.out ((ji44) : Int) (of_decide_eq_true (by first | (with_reducible assumption) | assumption)) (of_decide_eq_true (by first | (with_reducible assumption) | assumption)); have HP52 := Kd.R_putg HO_5.out ((ji44) : Int) true) | ((with_reducible refine gate_store (t := 4) (p := 90) rfl ?_); (try (rw [drewN_self w51]; generalize hq_ : World.drewN w51 _ = w51; have n0_ := Aside0.mk (Kd.R_at hq_ HO_5.out); have n1_ := Aside0.mk (blk_at hq_ BK101.out); have n2_ := Aside0.mk (below_at hq_ HB.out); clear hq_ HO_5 BK101 HB; have HO_5 := n0_; have BK101 := n1_; have HB := n2_; clear n0_ n1_ n2_; (try (obtain ⟨hy52_, hz52_⟩ := Kd.R_celln false HO_5.out ((ji44) : Int) (of_decide_eq_true (by first | (with_reducible assumption) | assumption)) (of_decide_eq_true (by first | (with_reducible assumption) | assumption)))); (try (have HP52 := Kd.R_putg HO_5.out ((ji44) : Int) true)))); refine store_event (t := 4) (p := 90) (v := ?vo_w53) (w1 := (w51.setCell ⟨go42, ((ji44) : Int).toNat, none⟩ (.bool true))) ?hg ?ho ?hn ?hr ?_; (case ho => rfl); (case hg => rfl); (case hn => rfl); (case hr => first | (go_simp; done) | (go_simp; rfl)); intro w53 hw; have hg : w51.grownBy w53 (some go42) := (by rw [hw]; exact HP52.2); have hp_ : Kd.R Kd.bool 4 w53 w.heap.size (fun _ => True) (.slice (some ⟨go42, 0, none⟩) x5_4.length co48) y115 := (by rw [hw, Ny115.out]; exact HP52.1); clear HP52; have n0_ := Aside0.mk (hp_); have n1_ := Aside0.mk (blk_grown (g := gb101) (o := .cells #[.int .i64 a0_0, .slice (some ad112) l0_1.length c0_1] 29 (0, 0)) (dr BK101) hg (Kd.R_ne HO_5.out BK101.out (by decide))); have n2_ := Aside0.mk ((by rw [hw]; exact below_set (HB.out) GB42.out : Below w.heap.size w w53)); clear HO_5; clear BK101; clear HB; have HO_5 := n0_; have BK101 := n1_; have HB := n2_; clear n0_ n1_ n2_; clear hg hw hp_)))
                      go_roundg k4
                      case measure => have := HJ2.out; have := HK2.out; have := HJ20.out; have := HK4.out; omega
                      case rel => exact ⟨(y115), (wrap64 (x7_4 + 1)), (wrap64 (x8_4 - 1)), (by first | rfl | (simp; done) | (simp [*]; done)), (by first | rfl | (simp; done) | (simp [*]; done)), H', ⟨by have := HJ2.out; have := HK2.out; have := HJ20.out; have := HK4.out; omega⟩, ⟨by (with_reducible repeat (first | apply Kd.R_alloc | apply Kd.R_drewN | apply Kd.R_drew)); exact HO_5.out⟩, ⟨by (with_reducible repeat (first | refine blk_drewN ?_ _ | refine blk_drew ?_ | refine blk_alloc ?_ _)); exact BK101.out⟩, ⟨by repeat (first | (with_reducible first | exact HB.out | apply below_alloc | apply pw_below_drewN | apply below_drew1 | refine below_set ?_ GE101.out) | exact HB.out)⟩⟩
                     ·rw [if_neg c46] at H
                      exact absurd H (by simp)
                    ·rw [if_neg c45] at H
                     exact absurd H (by simp)
                   ·rw [if_neg c43] at H
                    have c43b0 : decide (0 ≤ (wrap64 ((wrap64 ((wrap64 (Int.tdiv ((rd_T79 l0_1 x8_4).f1) 2)) - a0_0)) - 1))) = false := decide_eq_false c43; clear c43
                    have H' := Aside0.mk H
                    clear H
                    obtain ⟨Ao54, co54, eo54⟩ := Kd.R_slice HO_5.out
                    subst eo54
                    have p111 : 0 ≤ (x8_4 : Int) := of_decide_eq_true (by first | (with_reducible assumption) | assumption)
                    have q111 : x8_4 < (x5_4.length : Int) := of_decide_eq_true (by first | (with_reducible assumption) | assumption)
                    obtain ⟨ad111, e111, hx111_0⟩ := Kd.at_bool (Kd.R_reads' HO_5.out).2.2 x8_4 p111 q111
                    (try rw [← Nbq35.out] at hx111_0)
                    cases e111
                    replace p111 := eq_true p111
                    replace q111 := eq_true q111
                    have hcz55_0 : wr.cell? ⟨gb101, 0, none⟩ = some (.int .i64 a0_0) := (blk_cell BK101.out 0).trans rfl; have hcz55_1 : wr.cell? ⟨gb101, 1, none⟩ = some (.slice A0_1 l0_1.length c0_1) := (blk_cell BK101.out 1).trans rfl; have hfz55_0 := blk_frozen BK101.out 0; have hfz55_1 := blk_frozen BK101.out 1
                    have p112 : 0 ≤ (x8_4 : Int) := of_decide_eq_true (by first | (with_reducible assumption) | assumption)
                    have q112 : x8_4 < (l0_1.length : Int) := of_decide_eq_true (by first | (with_reducible assumption) | assumption)
                    obtain ⟨ad112, e112, hx112_0, hx112_1⟩ := at_T79 HR0_1.out x8_4 p112 q112
                    cases e112
                    replace hx112_0 := (HB.out.cell (World.block_lt_of_cell? w _ hx112_0)).trans hx112_0
                    replace hx112_1 := (HB.out.cell (World.block_lt_of_cell? w _ hx112_1)).trans hx112_1
                    replace p112 := eq_true p112
                    replace q112 := eq_true q112
                    have p113 : 0 ≤ (x8_4 : Int) := of_decide_eq_true (by first | (with_reducible assumption) | assumption)
                    have q113 : x8_4 < (l0_1.length : Int) := of_decide_eq_true (by first | (with_reducible assumption) | assumption)
                    obtain ⟨ad113, e113, hx113_0, hx113_1⟩ := at_T79 HR0_1.out x8_4 p113 q113
                    obtain rfl : ad112 = ad113 := (by injection e113)
                    replace hx113_0 := (HB.out.cell (World.block_lt_of_cell? w _ hx113_0)).trans hx113_0
                    replace hx113_1 := (HB.out.cell (World.block_lt_of_cell? w _ hx113_1)).trans hx113_1
                    replace p113 := eq_true p113
                    replace q113 := eq_true q113
                    have p42 : 0 ≤ ((ji39) : Int) := of_decide_eq_true (by first | (with_reducible assumption) | assumption)
                    have q42 : ((ji39) : Int) < ((x5_4.length : Int) : Int) := of_decide_eq_true (by first | (with_reducible assumption) | assumption)
                    obtain ⟨go42, co42, eo42, gb42, gl42, cl42, HG42⟩ := Kd.R_form HO_5.out (by omega)
                    (first | cases eo42 | (injection eo42 with ea_ en_ ec_; (first | subst ea_ | (injection ea_ with ea_; subst ea_)); subst ec_; clear en_))
                    have GB42 := Aside0.mk gb42; have GG42 := Aside0.mk HG42; clear gb42 gl42 HG42
                    (first | simp only [add_plain] at hx111_0 | skip)
                    obtain ⟨hx42_0, hf42_0⟩ := Kd.R_celln false HO_5.out ((ji39) : Int) p42 q42
                    replace p42 := eq_true p42
                    replace q42 := eq_true q42
                    have HP56 := Kd.R_putg HO_5.out ((ji39) : Int) true
                    go_wp2_with (first | ((with_reducible refine gate_store (t := 4) (p := 85) rfl ?_); (try (rw [drewN_self wr]; generalize hq_ : World.drewN wr _ = wr; have n0_ := Aside0.mk (Kd.R_at hq_ HO_5.out); have n1_ := Aside0.mk (blk_at hq_ BK101.out); have n2_ := Aside0.mk (below_at hq_ HB.out); clear hq_ HO_5 BK101 HB; have HO_5 := n0_; have BK101 := n1_; have HB := n2_; clear n0_ n1_ n2_; (try (have HP56 := Kd.R_putg HO_5.out ((ji39) : Int) true)); (try (obtain ⟨hx42_0, hf42_0⟩ := Kd.R_celln false HO_5.out ((ji39) : Int) (of_eq_true p42) (of_eq_true q42))))); refine store_event (t := 4) (p := 85) (v := ?vo_w57) (w1 := (wr.setCell ⟨go42, ((ji39) : Int).toNat, none⟩ (.bool true))) ?hg ?ho ?hn ?hr ?_; (case ho => rfl); (case hg => rfl); (case hn => rfl); (case hr => first | (go_simp; done) | (go_simp; rfl)); intro w57 hw; have hg : wr.grownBy w57 (some go42) := (by rw [hw]; exact HP56.2); have hp_ : Kd.R Kd.bool 4 w57 w.heap.size (fun _ => True) (.slice (some ⟨go42, 0, none⟩) x5_4.length co54) y114 := (by rw [hw, Ny114.out]; exact HP56.1); clear HP56; have n0_ := Aside0.mk (hp_); have n1_ := Aside0.mk (blk_grown (g := gb101) (o := .cells #[.int .i64 a0_0, .slice (some ad112) l0_1.length c0_1] 29 (0, 0)) (dr BK101) hg (Kd.R_ne HO_5.out BK101.out (by decide))); have n2_ := Aside0.mk ((by rw [hw]; exact below_set (HB.out) GB42.out : Below w.heap.size w w57)); clear HO_5; clear BK101; clear HB; have HO_5 := n0_; have BK101 := n1_; have HB := n2_; clear n0_ n1_ n2_; clear hg hw hp_))
                    repeat (go_quiet (first | ((with_reducible refine gate_store (t := 4) (p := 85) rfl ?_); (try (rw [drewN_self wr]; generalize hq_ : World.drewN wr _ = wr; have n0_ := Aside0.mk (Kd.R_at hq_ HO_5.out); have n1_ := Aside0.mk (blk_at hq_ BK101.out); have n2_ := Aside0.mk (below_at hq_ HB.out); clear hq_ HO_5 BK101 HB; have HO_5 := n0_; have BK101 := n1_; have HB := n2_; clear n0_ n1_ n2_; (try (have HP56 := Kd.R_putg HO_5.out ((ji39) : Int) true)); (try (obtain ⟨hx42_0, hf42_0⟩ := Kd.R_celln false HO_5.out ((ji39) : Int) (of_eq_true p42) (of_eq_true q42))))); refine store_event (t := 4) (p := 85) (v := ?vo_w57) (w1 := (wr.setCell ⟨go42, ((ji39) : Int).toNat, none⟩ (.bool true))) ?hg ?ho ?hn ?hr ?_; (case ho => rfl); (case hg => rfl); (case hn => rfl); (case hr => first | (go_simp; done) | (go_simp; rfl)); intro w57 hw; have hg : wr.grownBy w57 (some go42) := (by rw [hw]; exact HP56.2); have hp_ : Kd.R Kd.bool 4 w57 w.heap.size (fun _ => True) (.slice (some ⟨go42, 0, none⟩) x5_4.length co54) y114 := (by rw [hw, Ny114.out]; exact HP56.1); clear HP56; have n0_ := Aside0.mk (hp_); have n1_ := Aside0.mk (blk_grown (g := gb101) (o := .cells #[.int .i64 a0_0, .slice (some ad112) l0_1.length c0_1] 29 (0, 0)) (dr BK101) hg (Kd.R_ne HO_5.out BK101.out (by decide))); have n2_ := Aside0.mk ((by rw [hw]; exact below_set (HB.out) GB42.out : Below w.heap.size w w57)); clear HO_5; clear BK101; clear HB; have HO_5 := n0_; have BK101 := n1_; have HB := n2_; clear n0_ n1_ n2_; clear hg hw hp_)); try go_wp2_with (first | ((with_reducible refine gate_store (t := 4) (p := 85) rfl ?_); (try (rw [drewN_self wr]; generalize hq_ : World.drewN wr _ = wr; have n0_ := Aside0.mk (Kd.R_at hq_ HO_5.out); have n1_ := Aside0.mk (blk_at hq_ BK101.out); have n2_ := Aside0.mk (below_at hq_ HB.out); clear hq_ HO_5 BK101 HB; have HO_5 := n0_; have BK101 := n1_; have HB := n2_; clear n0_ n1_ n2_; (try (have HP56 := Kd.R_putg HO_5.out ((ji39) : Int) true)); (try (obtain ⟨hx42_0, hf42_0⟩ := Kd.R_celln false HO_5.out ((ji39) : Int) (of_eq_true p42) (of_eq_true q42))))); refine store_event (t := 4) (p := 85) (v := ?vo_w57) (w1 := (wr.setCell ⟨go42, ((ji39) : Int).toNat, none⟩ (.bool true))) ?hg ?ho ?hn ?hr ?_; (case ho => rfl); (case hg => rfl); (case hn => rfl); (case hr => first | (go_simp; done) | (go_simp; rfl)); intro w57 hw; have hg : wr.grownBy w57 (some go42) := (by rw [hw]; exact HP56.2); have hp_ : Kd.R Kd.bool 4 w57 w.heap.size (fun _ => True) (.slice (some ⟨go42, 0, none⟩) x5_4.length co54) y114 := (by rw [hw, Ny114.out]; exact HP56.1); clear HP56; have n0_ := Aside0.mk (hp_); have n1_ := Aside0.mk (blk_grown (g := gb101) (o := .cells #[.int .i64 a0_0, .slice (some ad112) l0_1.length c0_1] 29 (0, 0)) (dr BK101) hg (Kd.R_ne HO_5.out BK101.out (by decide))); have n2_ := Aside0.mk ((by rw [hw]; exact below_set (HB.out) GB42.out : Below w.heap.size w w57)); clear HO_5; clear BK101; clear HB; have HO_5 := n0_; have BK101 := n1_; have HB := n2_; clear n0_ n1_ n2_; clear hg hw hp_)))
                    go_roundg k4
                    case measure => have := HJ2.out; have := HK2.out; have := HJ20.out; have := HK4.out; omega
                    case rel => exact ⟨(y114), (wrap64 (x7_4 + 1)), (wrap64 (x8_4 - 1)), (by first | rfl | (simp; done) | (simp [*]; done)), (by first | rfl | (simp; done) | (simp [*]; done)), H', ⟨by have := HJ2.out; have := HK2.out; have := HJ20.out; have := HK4.out; omega⟩, ⟨by (with_reducible repeat (first | apply Kd.R_alloc | apply Kd.R_drewN | apply Kd.R_drew)); exact HO_5.out⟩, ⟨by (with_reducible repeat (first | refine blk_drewN ?_ _ | refine blk_drew ?_ | refine blk_alloc ?_ _)); exact BK101.out⟩, ⟨by repeat (first | (with_reducible first | exact HB.out | apply below_alloc | apply pw_below_drewN | apply below_drew1 | refine below_set ?_ GE101.out) | exact HB.out)⟩⟩
                  ·rw [if_neg c41] at H
                   exact absurd H (by simp)
                 ·rw [if_neg c40] at H
                  exact absurd H (by simp)
                ·rw [if_neg c38] at H
                 have c38b0 : decide (0 ≤ (wrap64 ((wrap64 ((wrap64 (Int.tdiv ((rd_T79 l0_1 x8_4).f0) 2)) - a0_0)) - 1))) = false := decide_eq_false c38; clear c38
                 by_cases c58 : (wrap64 ((wrap64 ((wrap64 (Int.tdiv ((rd_T79 l0_1 x8_4).f1) 2)) - a0_0)) - 1)) ≥ 0
                 ·rw [if_pos c58] at H
                  have c58b0 : decide (0 ≤ (wrap64 ((wrap64 ((wrap64 (Int.tdiv ((rd_T79 l0_1 x8_4).f1) 2)) - a0_0)) - 1))) = true := decide_eq_true c58; clear c58
                  obtain ⟨ji59, hji59⟩ : ∃ j_ : Int, (wrap64 ((wrap64 ((wrap64 (Int.tdiv ((rd_T79 l0_1 x8_4).f1) 2)) - a0_0)) - 1)) = j_ := ⟨_, rfl⟩
                  replace H : (if 0 ≤ (ji59) then (if (ji59) < (x5_4.length : Int) then (spec_GraphSize.l1 k4 (x5_4.set ((ji59) : Int).toNat true) (wrap64 (x7_4 + 1)) (wrap64 (x8_4 - 1)) a0_0 l0_1) else (none)) else (none)) = some r := by first | (rw [hji59] at H; exact H) | (simp only [hji59] at H ⊢; exact H)
                  (try rw [hji59] at c58b0)
                  have hji59w : (IntKind.i64.wrap ((wrap64 ((wrap64 (Int.tdiv ((rd_T79 l0_1 x8_4).f1) 2)) - a0_0)) - 1)) = ji59 := (i64_w _).trans hji59
                  by_cases c60 : 0 ≤ (ji59)
                  ·rw [if_pos c60] at H
                   have c60b0 : decide (0 ≤ (ji59)) = true := decide_eq_true c60; clear c60
                   by_cases c61 : (ji59) < (x5_4.length : Int)
                   ·rw [if_pos c61] at H
                    have c61b0 : decide ((ji59) < (x5_4.length : Int)) = true := decide_eq_true c61; clear c61
                    obtain ⟨y116, hy116⟩ : ∃ y_ : List Bool, y_ = (x5_4.set ((ji59) : Int).toNat true) := ⟨_, rfl⟩
                    replace H : (spec_GraphSize.l1 k4 y116 (wrap64 (x7_4 + 1)) (wrap64 (x8_4 - 1)) a0_0 l0_1) = some r := by first | (rw [hy116]; with_reducible exact H) | (have H2_ := (Option.bind_some _ _).symm.trans H; rw [hy116]; with_reducible exact H2_) | (have H2_ := (Option.bind_some _ _).symm.trans H; with_reducible exact H2_) | with_reducible exact H | (rw [hy116]; exact H) | exact H
                    have Ny116 := Aside0.mk hy116; clear hy116
                    have H' := Aside0.mk H
                    clear H
                    obtain ⟨Ao63, co63, eo63⟩ := Kd.R_slice HO_5.out
                    subst eo63
                    have p111 : 0 ≤ (x8_4 : Int) := of_decide_eq_true (by first | (with_reducible assumption) | assumption)
                    have q111 : x8_4 < (x5_4.length : Int) := of_decide_eq_true (by first | (with_reducible assumption) | assumption)
                    obtain ⟨ad111, e111, hx111_0⟩ := Kd.at_bool (Kd.R_reads' HO_5.out).2.2 x8_4 p111 q111
                    (try rw [← Nbq35.out] at hx111_0)
                    cases e111
                    replace p111 := eq_true p111
                    replace q111 := eq_true q111
                    have hcz64_0 : wr.cell? ⟨gb101, 0, none⟩ = some (.int .i64 a0_0) := (blk_cell BK101.out 0).trans rfl; have hcz64_1 : wr.cell? ⟨gb101, 1, none⟩ = some (.slice A0_1 l0_1.length c0_1) := (blk_cell BK101.out 1).trans rfl; have hfz64_0 := blk_frozen BK101.out 0; have hfz64_1 := blk_frozen BK101.out 1
                    have p112 : 0 ≤ (x8_4 : Int) := of_decide_eq_true (by first | (with_reducible assumption) | assumption)
                    have q112 : x8_4 < (l0_1.length : Int) := of_decide_eq_true (by first | (with_reducible assumption) | assumption)
                    obtain ⟨ad112, e112, hx112_0, hx112_1⟩ := at_T79 HR0_1.out x8_4 p112 q112
                    cases e112
                    replace hx112_0 := (HB.out.cell (World.block_lt_of_cell? w _ hx112_0)).trans hx112_0
                    replace hx112_1 := (HB.out.cell (World.block_lt_of_cell? w _ hx112_1)).trans hx112_1
                    replace p112 := eq_true p112
                    replace q112 := eq_true q112
                    have p113 : 0 ≤ (x8_4 : Int) := of_decide_eq_true (by first | (with_reducible assumption) | assumption)
                    have q113 : x8_4 < (l0_1.length : Int) := of_decide_eq_true (by first | (with_reducible assumption) | assumption)
                    obtain ⟨ad113, e113, hx113_0, hx113_1⟩ := at_T79 HR0_1.out x8_4 p113 q113
                    obtain rfl : ad112 = ad113 := (by injection e113)
                    replace hx113_0 := (HB.out.cell (World.block_lt_of_cell? w _ hx113_0)).trans hx113_0
                    replace hx113_1 := (HB.out.cell (World.block_lt_of_cell? w _ hx113_1)).trans hx113_1
                    replace p113 := eq_true p113
                    replace q113 := eq_true q113
                    have p62 : 0 ≤ ((ji59) : Int) := of_decide_eq_true (by first | (with_reducible assumption) | assumption)
                    have q62 : ((ji59) : Int) < ((x5_4.length : Int) : Int) := of_decide_eq_true (by first | (with_reducible assumption) | assumption)
                    obtain ⟨go62, co62, eo62, gb62, gl62, cl62, HG62⟩ := Kd.R_form HO_5.out (by omega)
                    (first | cases eo62 | (injection eo62 with ea_ en_ ec_; (first | subst ea_ | (injection ea_ with ea_; subst ea_)); subst ec_; clear en_))
                    have GB62 := Aside0.mk gb62; have GG62 := Aside0.mk HG62; clear gb62 gl62 HG62
                    (first | simp only [add_plain] at hx111_0 | skip)
                    obtain ⟨hx62_0, hf62_0⟩ := Kd.R_celln false HO_5.out ((ji59) : Int) p62 q62
                    replace p62 := eq_true p62
                    replace q62 := eq_true q62
                    have HP65 := Kd.R_putg HO_5.out ((ji59) : Int) true
                    go_wp2_with (first | ((with_reducible refine gate_store (t := 4) (p := 90) rfl ?_); (try (rw [drewN_self wr]; generalize hq_ : World.drewN wr _ = wr; have n0_ := Aside0.mk (Kd.R_at hq_ HO_5.out); have n1_ := Aside0.mk (blk_at hq_ BK101.out); have n2_ := Aside0.mk (below_at hq_ HB.out); clear hq_ HO_5 BK101 HB; have HO_5 := n0_; have BK101 := n1_; have HB := n2_; clear n0_ n1_ n2_; (try (have HP65 := Kd.R_putg HO_5.out ((ji59) : Int) true)); (try (obtain ⟨hx62_0, hf62_0⟩ := Kd.R_celln false HO_5.out ((ji59) : Int) (of_eq_true p62) (of_eq_true q62))))); refine store_event (t := 4) (p := 90) (v := ?vo_w66) (w1 := (wr.setCell ⟨go62, ((ji59) : Int).toNat, none⟩ (.bool true))) ?hg ?ho ?hn ?hr ?_; (case ho => rfl); (case hg => rfl); (case hn => rfl); (case hr => first | (go_simp; done) | (go_simp; rfl)); intro w66 hw; have hg : wr.grownBy w66 (some go62) := (by rw [hw]; exact HP65.2); have hp_ : Kd.R Kd.bool 4 w66 w.heap.size (fun _ => True) (.slice (some ⟨go62, 0, none⟩) x5_4.length co63) y116 := (by rw [hw, Ny116.out]; exact HP65.1); clear HP65; have n0_ := Aside0.mk (hp_); have n1_ := Aside0.mk (blk_grown (g := gb101) (o := .cells #[.int .i64 a0_0, .slice (some ad112) l0_1.length c0_1] 29 (0, 0)) (dr BK101) hg (Kd.R_ne HO_5.out BK101.out (by decide))); have n2_ := Aside0.mk ((by rw [hw]; exact below_set (HB.out) GB62.out : Below w.heap.size w w66)); clear HO_5; clear BK101; clear HB; have HO_5 := n0_; have BK101 := n1_; have HB := n2_; clear n0_ n1_ n2_; clear hg hw hp_))
                    repeat (go_quiet (first | ((with_reducible refine gate_store (t := 4) (p := 90) rfl ?_); (try (rw [drewN_self wr]; generalize hq_ : World.drewN wr _ = wr; have n0_ := Aside0.mk (Kd.R_at hq_ HO_5.out); have n1_ := Aside0.mk (blk_at hq_ BK101.out); have n2_ := Aside0.mk (below_at hq_ HB.out); clear hq_ HO_5 BK101 HB; have HO_5 := n0_; have BK101 := n1_; have HB := n2_; clear n0_ n1_ n2_; (try (have HP65 := Kd.R_putg HO_5.out ((ji59) : Int) true)); (try (obtain ⟨hx62_0, hf62_0⟩ := Kd.R_celln false HO_5.out ((ji59) : Int) (of_eq_true p62) (of_eq_true q62))))); refine store_event (t := 4) (p := 90) (v := ?vo_w66) (w1 := (wr.setCell ⟨go62, ((ji59) : Int).toNat, none⟩ (.bool true))) ?hg ?ho ?hn ?hr ?_; (case ho => rfl); (case hg => rfl); (case hn => rfl); (case hr => first | (go_simp; done) | (go_simp; rfl)); intro w66 hw; have hg : wr.grownBy w66 (some go62) := (by rw [hw]; exact HP65.2); have hp_ : Kd.R Kd.bool 4 w66 w.heap.size (fun _ => True) (.slice (some ⟨go62, 0, none⟩) x5_4.length co63) y116 := (by rw [hw, Ny116.out]; exact HP65.1); clear HP65; have n0_ := Aside0.mk (hp_); have n1_ := Aside0.mk (blk_grown (g := gb101) (o := .cells #[.int .i64 a0_0, .slice (some ad112) l0_1.length c0_1] 29 (0, 0)) (dr BK101) hg (Kd.R_ne HO_5.out BK101.out (by decide))); have n2_ := Aside0.mk ((by rw [hw]; exact below_set (HB.out) GB62.out : Below w.heap.size w w66)); clear HO_5; clear BK101; clear HB; have HO_5 := n0_; have BK101 := n1_; have HB := n2_; clear n0_ n1_ n2_; clear hg hw hp_)); try go_wp2_with (first | ((with_reducible refine gate_store (t := 4) (p := 90) rfl ?_); (try (rw [drewN_self wr]; generalize hq_ : World.drewN wr _ = wr; have n0_ := Aside0.mk (Kd.R_at hq_ HO_5.out); have n1_ := Aside0.mk (blk_at hq_ BK101.out); have n2_ := Aside0.mk (below_at hq_ HB.out); clear hq_ HO_5 BK101 HB; have HO_5 := n0_; have BK101 := n1_; have HB := n2_; clear n0_ n1_ n2_; (try (have HP65 := Kd.R_putg HO_5.out ((ji59) : Int) true)); (try (obtain ⟨hx62_0, hf62_0⟩ := Kd.R_celln false HO_5.out ((ji59) : Int) (of_eq_true p62) (of_eq_true q62))))); refine store_event (t := 4) (p := 90) (v := ?vo_w66) (w1 := (wr.setCell ⟨go62, ((ji59) : Int).toNat, none⟩ (.bool true))) ?hg ?ho ?hn ?hr ?_; (case ho => rfl); (case hg => rfl); (case hn => rfl); (case hr => first | (go_simp; done) | (go_simp; rfl)); intro w66 hw; have hg : wr.grownBy w66 (some go62) := (by rw [hw]; exact HP65.2); have hp_ : Kd.R Kd.bool 4 w66 w.heap.size (fun _ => True) (.slice (some ⟨go62, 0, none⟩) x5_4.length co63) y116 := (by rw [hw, Ny116.out]; exact HP65.1); clear HP65; have n0_ := Aside0.mk (hp_); have n1_ := Aside0.mk (blk_grown (g := gb101) (o := .cells #[.int .i64 a0_0, .slice (some ad112) l0_1.length c0_1] 29 (0, 0)) (dr BK101) hg (Kd.R_ne HO_5.out BK101.out (by decide))); have n2_ := Aside0.mk ((by rw [hw]; exact below_set (HB.out) GB62.out : Below w.heap.size w w66)); clear HO_5; clear BK101; clear HB; have HO_5 := n0_; have BK101 := n1_; have HB := n2_; clear n0_ n1_ n2_; clear hg hw hp_)))
                    go_roundg k4
                    case measure => have := HJ2.out; have := HK2.out; have := HJ20.out; have := HK4.out; omega
                    case rel => exact ⟨(y116), (wrap64 (x7_4 + 1)), (wrap64 (x8_4 - 1)), (by first | rfl | (simp; done) | (simp [*]; done)), (by first | rfl | (simp; done) | (simp [*]; done)), H', ⟨by have := HJ2.out; have := HK2.out; have := HJ20.out; have := HK4.out; omega⟩, ⟨by (with_reducible repeat (first | apply Kd.R_alloc | apply Kd.R_drewN | apply Kd.R_drew)); exact HO_5.out⟩, ⟨by (with_reducible repeat (first | refine blk_drewN ?_ _ | refine blk_drew ?_ | refine blk_alloc ?_ _)); exact BK101.out⟩, ⟨by repeat (first | (with_reducible first | exact HB.out | apply below_alloc | apply pw_below_drewN | apply below_drew1 | refine below_set ?_ GE101.out) | exact HB.out)⟩⟩
                   ·rw [if_neg c61] at H
                    exact absurd H (by simp)
                  ·rw [if_neg c60] at H
                   exact absurd H (by simp)
                 ·rw [if_neg c58] at H
                  have c58b0 : decide (0 ≤ (wrap64 ((wrap64 ((wrap64 (Int.tdiv ((rd_T79 l0_1 x8_4).f1) 2)) - a0_0)) - 1))) = false := decide_eq_false c58; clear c58
                  have H' := Aside0.mk H
                  clear H
                  obtain ⟨Ao67, co67, eo67⟩ := Kd.R_slice HO_5.out
                  subst eo67
                  have p111 : 0 ≤ (x8_4 : Int) := of_decide_eq_true (by first | (with_reducible assumption) | assumption)
                  have q111 : x8_4 < (x5_4.length : Int) := of_decide_eq_true (by first | (with_reducible assumption) | assumption)
                  obtain ⟨ad111, e111, hx111_0⟩ := Kd.at_bool (Kd.R_reads' HO_5.out).2.2 x8_4 p111 q111
                  (try rw [← Nbq35.out] at hx111_0)
                  cases e111
                  replace p111 := eq_true p111
                  replace q111 := eq_true q111
                  have hcz68_0 : wr.cell? ⟨gb101, 0, none⟩ = some (.int .i64 a0_0) := (blk_cell BK101.out 0).trans rfl; have hcz68_1 : wr.cell? ⟨gb101, 1, none⟩ = some (.slice A0_1 l0_1.length c0_1) := (blk_cell BK101.out 1).trans rfl; have hfz68_0 := blk_frozen BK101.out 0; have hfz68_1 := blk_frozen BK101.out 1
                  have p112 : 0 ≤ (x8_4 : Int) := of_decide_eq_true (by first | (with_reducible assumption) | assumption)
                  have q112 : x8_4 < (l0_1.length : Int) := of_decide_eq_true (by first | (with_reducible assumption) | assumption)
                  obtain ⟨ad112, e112, hx112_0, hx112_1⟩ := at_T79 HR0_1.out x8_4 p112 q112
                  cases e112
                  replace hx112_0 := (HB.out.cell (World.block_lt_of_cell? w _ hx112_0)).trans hx112_0
                  replace hx112_1 := (HB.out.cell (World.block_lt_of_cell? w _ hx112_1)).trans hx112_1
                  replace p112 := eq_true p112
                  replace q112 := eq_true q112
                  have p113 : 0 ≤ (x8_4 : Int) := of_decide_eq_true (by first | (with_reducible assumption) | assumption)
                  have q113 : x8_4 < (l0_1.length : Int) := of_decide_eq_true (by first | (with_reducible assumption) | assumption)
                  obtain ⟨ad113, e113, hx113_0, hx113_1⟩ := at_T79 HR0_1.out x8_4 p113 q113
                  obtain rfl : ad112 = ad113 := (by injection e113)
                  replace hx113_0 := (HB.out.cell (World.block_lt_of_cell? w _ hx113_0)).trans hx113_0
                  replace hx113_1 := (HB.out.cell (World.block_lt_of_cell? w _ hx113_1)).trans hx113_1
                  replace p113 := eq_true p113
                  replace q113 := eq_true q113
                  go_wp2
                  repeat (go_quiet (fail); try go_wp2)
                  go_roundg k4
                  case measure => have := HJ2.out; have := HK2.out; have := HJ20.out; have := HK4.out; omega
                  case rel => exact ⟨(x5_4), (wrap64 (x7_4 + 1)), (wrap64 (x8_4 - 1)), (by first | rfl | (simp; done) | (simp [*]; done)), (by first | rfl | (simp; done) | (simp [*]; done)), H', ⟨by have := HJ2.out; have := HK2.out; have := HJ20.out; have := HK4.out; omega⟩, ⟨by (with_reducible repeat (first | apply Kd.R_alloc | apply Kd.R_drewN | apply Kd.R_drew)); exact HO_5.out⟩, ⟨by (with_reducible repeat (first | refine blk_drewN ?_ _ | refine blk_drew ?_ | refine blk_alloc ?_ _)); exact BK101.out⟩, ⟨by repeat (first | (with_reducible first | exact HB.out | apply below_alloc | apply pw_below_drewN | apply below_drew1 | refine below_set ?_ GE101.out) | exact HB.out)⟩⟩
               ·rw [if_neg c37] at H
                exact absurd H (by simp)
              ·replace c36 := Bool.eq_false_iff.mpr c36
               subst c36
               have H1 : (spec_GraphSize.l1 k4 x5_4 x7_4 (wrap64 (x8_4 - 1)) a0_0 l0_1) = some r := by rw [if_neg (show ¬ (false = true) by decide)] at H; exact H
               clear H; have H := H1; clear H1
               have H' := Aside0.mk H
               clear H
               obtain ⟨Ao69, co69, eo69⟩ := Kd.R_slice HO_5.out
               subst eo69
               have p111 : 0 ≤ (x8_4 : Int) := of_decide_eq_true (by first | (with_reducible assumption) | assumption)
               have q111 : x8_4 < (x5_4.length : Int) := of_decide_eq_true (by first | (with_reducible assumption) | assumption)
               obtain ⟨ad111, e111, hx111_0⟩ := Kd.at_bool (Kd.R_reads' HO_5.out).2.2 x8_4 p111 q111
               (try rw [← Nbq35.out] at hx111_0)
               cases e111
               replace p111 := eq_true p111
               replace q111 := eq_true q111
               go_wp2
               repeat (go_quiet (fail); try go_wp2)
               go_roundg k4
               case measure => have := HJ2.out; have := HK2.out; have := HJ20.out; have := HK4.out; omega
               case rel => exact ⟨(x5_4), (x7_4), (wrap64 (x8_4 - 1)), (by first | rfl | (simp; done) | (simp [*]; done)), (by first | rfl | (simp; done) | (simp [*]; done)), H', ⟨by have := HJ2.out; have := HK2.out; have := HJ20.out; have := HK4.out; omega⟩, ⟨by (with_reducible repeat (first | apply Kd.R_alloc | apply Kd.R_drewN | apply Kd.R_drew)); exact HO_5.out⟩, ⟨by (with_reducible repeat (first | refine blk_drewN ?_ _ | refine blk_drew ?_ | refine blk_alloc ?_ _)); exact BK101.out⟩, ⟨by repeat (first | (with_reducible first | exact HB.out | apply below_alloc | apply pw_below_drewN | apply below_drew1 | refine below_set ?_ GE101.out) | exact HB.out)⟩⟩
             ·rw [if_neg c34] at H
              exact absurd H (by simp)
            ·rw [if_neg c33] at H
             exact absurd H (by simp)
           ·rw [if_neg c32] at H
            have c32b0 : decide (0 ≤ x8_4) = false := decide_eq_false c32; clear c32
            obtain rfl := Option.some.inj H
            go_wp2
            repeat (go_quiet (fail); try go_wp2)
            go_ret
            exact ⟨by first | rfl | (simp [errW_none, errW_some] <;> rfl) | (simp [*, errW_none, errW_some] <;> rfl), by repeat (first | (with_reducible first | exact HB.out | apply below_alloc | apply pw_below_drewN | apply below_drew1 | refine below_set ?_ GE101.out) | exact HB.out)⟩
end Go.Proofs.Yteagogcpbcickaa.G
