-- texts of this session, merged by a program of it (wip/gen/pack.py)
import Derived.Test.YteagogcpbcickaaKFnExactReadPick1
import Derived.Test.YteagogcpbcickaaKFnExactReadPick2
-- written by a program of this session (wip/gen/gen.py); Lean checks it
namespace Go.Proofs.Yteagogcpbcickaa.G
open Go.RowKit Go.Proofs.YteagogcpbcickaaW.PrintWords Go.Proofs.YteagogcpbcickaaW.PrintLast Go.Proofs.YteagogcpbcickaaW.PrintMore
attribute [local go_sem] max2_int min2_int max_two min_two max_three min_three max_four min_four   -- for this text's walks alone
set_option linter.unusedVariables false
set_option linter.unusedSimpArgs false

/-! ### spec_PickText: function 49 -/
mutual
def spec_PickText.j0 : Nat → Bool → List Int → Int → Option (ByteArray)
  | 0, _, _, _ => none
  | k + 1, x14, x740000, x740001 => if x14 = true then (some (⟨#[]⟩ : ByteArray)) else (spec_PickText.l0 k (⟨#[]⟩ : ByteArray) 0 x740000 x740001)
def spec_PickText.l0 : Nat → ByteArray → Int → List Int → Int → Option (ByteArray)
  | 0, _, _, _, _ => none
  | k + 1, x3, x4, x740000, x740001 => if x4 < (x740000.length : Int) then (if 0 ≤ x4 then ((spec_l01In.f (rd x740000 x4) 0 1).bind fun t742 => (if t742 = true then (if 0 ≤ (rd x740000 x4) then (if (rd x740000 x4) ≤ (wrap64 ((rd x740000 x4) + 1)) then (if (wrap64 ((rd x740000 x4) + 1)) ≤ 2 then (if x3.size + ((⟨#[48, 49]⟩ : ByteArray).extract ((rd x740000 x4) : Int).toNat ((wrap64 ((rd x740000 x4) + 1)) : Int).toNat).size ≤ 9223372036854775807 then (spec_PickText.l0 k (x3 ++ ((⟨#[48, 49]⟩ : ByteArray).extract ((rd x740000 x4) : Int).toNat ((wrap64 ((rd x740000 x4) + 1)) : Int).toNat)) (wrap64 (x4 + 1)) x740000 x740001) else (none)) else (none)) else (none)) else (none)) else (some (⟨#[]⟩ : ByteArray)))) else (none)) else (if x3.toList = ([] : List UInt8) then (if 1 + 1 ≤ 9223372036854775807 then (if 0 ≤ x740001 then (if x740001 ≤ (wrap64 (x740001 + 1)) then (if (wrap64 (x740001 + 1)) ≤ 2 then (if 1 + 1 + ((⟨#[48, 49]⟩ : ByteArray).extract (x740001 : Int).toNat ((wrap64 (x740001 + 1)) : Int).toNat).size ≤ 9223372036854775807 then (some (((⟨#[45]⟩ : ByteArray) ++ (⟨#[32]⟩ : ByteArray)) ++ ((⟨#[48, 49]⟩ : ByteArray).extract (x740001 : Int).toNat ((wrap64 (x740001 + 1)) : Int).toNat))) else (none)) else (none)) else (none)) else (none)) else (none)) else (if x3.size + 1 ≤ 9223372036854775807 then (if 0 ≤ x740001 then (if x740001 ≤ (wrap64 (x740001 + 1)) then (if (wrap64 (x740001 + 1)) ≤ 2 then (if x3.size + 1 + ((⟨#[48, 49]⟩ : ByteArray).extract (x740001 : Int).toNat ((wrap64 (x740001 + 1)) : Int).toNat).size ≤ 9223372036854775807 then (some ((x3 ++ (⟨#[32]⟩ : ByteArray)) ++ ((⟨#[48, 49]⟩ : ByteArray).extract (x740001 : Int).toNat ((wrap64 (x740001 + 1)) : Int).toNat))) else (none)) else (none)) else (none)) else (none)) else (none)))
end
def spec_PickText.f (k : Nat) (l0_0 : List Int) (a0_1 : Int) : Option (ByteArray) := if (l0_0.length : Int) > 12 then (spec_PickText.j0 k true l0_0 a0_1) else ((spec_l01In.f a0_1 0 1).bind fun t740 => (spec_PickText.j0 k (!t740) l0_0 a0_1))
set_option maxHeartbeats 8000000 in
set_option maxRecDepth 100000 in
theorem spec_PickText.calls (k : Nat) (A0_0 : Option Addr) (c0_0 : Nat) (l0_0 : List Int) (a0_1 : Int) (r : ByteArray) (w : World) (hr0_0 : Kd.C (Kd.int .i64) w A0_0 l0_0.length l0_0) (hc0_0 : l0_0.length ≤ c0_0) (h : spec_PickText.f k l0_0 a0_1 = some r) :
    Calls Try.prog 49 #[.agg #[.slice A0_0 l0_0.length c0_0, .int .i64 a0_1]] w fun e w' => e = .returned (.string r) ∧ Below w.heap.size w w' := by
  have hu68 := Try.underlying68
  have HR0_0 := Aside0.mk hr0_0
  have HC0_0 := Aside0.mk hc0_0
  clear hr0_0 hc0_0
  have HB := Aside0.mk (Below.refl w.heap.size w)
  have H : (if (l0_0.length : Int) > 12 then (spec_PickText.j0 k true l0_0 a0_1) else ((spec_l01In.f a0_1 0 1).bind fun t740 => (spec_PickText.j0 k (!t740) l0_0 a0_1))) = some r := h
  clear h
  have HC2 := Aside0.mk H
  clear H
  go_enter Try.func49, Try.ntmps49
  go_upto_region 1 with (first | ((with_reducible refine gate_dst (N := 1) rfl ?_); refine box_event ?hg (N := 1) ?hd (cs := #[.slice A0_0 l0_0.length c0_0, .int .i64 a0_1]) (t := 68) ?hr ?_; (case hd => rfl); (case hg => rfl); (case hr => first | (go_simp; done) | (go_simp; rfl)); intro gb739 hg w3 hbox hb; have n0_ := Aside0.mk (below_step (by repeat (first | (with_reducible first | exact HB.out | apply below_alloc | apply pw_below_drewN | apply below_drew1) | exact HB.out)) hb); have n1_ := Aside0.mk (hbox); have n2_ := Aside0.mk ((by rw [hg]; exact (below_size (by repeat (first | (with_reducible first | exact HB.out | apply below_alloc | apply pw_below_drewN | apply below_drew1) | exact HB.out))) : w.heap.size ≤ gb739)); have n3_ := Aside0.mk ((by rw [hg]; exact (below_size (by repeat (first | (with_reducible first | exact HB.out | apply below_alloc | apply pw_below_drewN | apply below_drew1) | exact HB.out))) : w.heap.size ≤ gb739)); clear HB; have HB := n0_; have BK739 := n1_; have GW739 := n2_; have GE739 := n3_; clear n0_ n1_ n2_ n3_; clear hb hbox hg))
  repeat (go_quiet (first | ((with_reducible refine gate_dst (N := 1) rfl ?_); refine box_event ?hg (N := 1) ?hd (cs := #[.slice A0_0 l0_0.length c0_0, .int .i64 a0_1]) (t := 68) ?hr ?_; (case hd => rfl); (case hg => rfl); (case hr => first | (go_simp; done) | (go_simp; rfl)); intro gb739 hg w3 hbox hb; have n0_ := Aside0.mk (below_step (by repeat (first | (with_reducible first | exact HB.out | apply below_alloc | apply pw_below_drewN | apply below_drew1) | exact HB.out)) hb); have n1_ := Aside0.mk (hbox); have n2_ := Aside0.mk ((by rw [hg]; exact (below_size (by repeat (first | (with_reducible first | exact HB.out | apply below_alloc | apply pw_below_drewN | apply below_drew1) | exact HB.out))) : w.heap.size ≤ gb739)); have n3_ := Aside0.mk ((by rw [hg]; exact (below_size (by repeat (first | (with_reducible first | exact HB.out | apply below_alloc | apply pw_below_drewN | apply below_drew1) | exact HB.out))) : w.heap.size ≤ gb739)); clear HB; have HB := n0_; have BK739 := n1_; have GW739 := n2_; have GE739 := n3_; clear n0_ n1_ n2_ n3_; clear hb hbox hg)); go_upto_region 1 with (first | ((with_reducible refine gate_dst (N := 1) rfl ?_); refine box_event ?hg (N := 1) ?hd (cs := #[.slice A0_0 l0_0.length c0_0, .int .i64 a0_1]) (t := 68) ?hr ?_; (case hd => rfl); (case hg => rfl); (case hr => first | (go_simp; done) | (go_simp; rfl)); intro gb739 hg w3 hbox hb; have n0_ := Aside0.mk (below_step (by repeat (first | (with_reducible first | exact HB.out | apply below_alloc | apply pw_below_drewN | apply below_drew1) | exact HB.out)) hb); have n1_ := Aside0.mk (hbox); have n2_ := Aside0.mk ((by rw [hg]; exact (below_size (by repeat (first | (with_reducible first | exact HB.out | apply below_alloc | apply pw_below_drewN | apply below_drew1) | exact HB.out))) : w.heap.size ≤ gb739)); have n3_ := Aside0.mk ((by rw [hg]; exact (below_size (by repeat (first | (with_reducible first | exact HB.out | apply below_alloc | apply pw_below_drewN | apply below_drew1) | exact HB.out))) : w.heap.size ≤ gb739)); clear HB; have HB := n0_; have BK739 := n1_; have GW739 := n2_; have GE739 := n3_; clear n0_ n1_ n2_ n3_; clear hb hbox hg)))
  (try simp only [Act.put, List.setIfInBounds_toArray, List.set_cons_zero, List.set_cons_succ])
  go_cut [14] (fun v14 wc => ∃ (kq : Nat) (x14_1 : Bool), v14 = .bool x14_1 ∧ Aside0 (spec_PickText.j0 kq x14_1 l0_0 a0_1 = some r) ∧ Aside0 (kq ≤ k) ∧ Aside0 (wc.heap[gb739]? = some (.cells #[(.slice A0_0 l0_0.length c0_0), .int .i64 a0_1] 68 (0, 0))) ∧ Aside0 (Below w.heap.size w wc))
  case first =>
    have H := HC2.out
    clear HC2
    by_cases c4 : (l0_0.length : Int) > 12
    · rw [if_pos c4] at H
      have c4b0 : decide (12 < (l0_0.length : Int)) = true := decide_eq_true c4
      have c4b1 : decide (12 < l0_0.length) = true := decide_eq_true (by omega)
      clear c4
      (first | rw [c4b0] | (simp only [i64_w, i32_w]; rw [c4b0]) | skip)
      have H' := Aside0.mk H
      clear H
      have hcz5_0 : w3.cell? ⟨gb739, 0, none⟩ = some (.slice A0_0 l0_0.length c0_0) := (blk_cell BK739.out 0).trans rfl
      have hcz5_1 : w3.cell? ⟨gb739, 1, none⟩ = some (.int .i64 a0_1) := (blk_cell BK739.out 1).trans rfl
      have hfz5_0 := blk_frozen BK739.out 0
      have hfz5_1 := blk_frozen BK739.out 1
      go_wp2
      repeat (go_quiet (fail); try go_wp2)
      go_meet
      case rel => exact ⟨_, (true), (by first | rfl | (simp; done) | (simp [*]; done)), H', ⟨by first | omega | exact Nat.le_refl _⟩, ⟨by (with_reducible repeat (first | refine blk_drewN ?_ _ | refine blk_drew ?_ | refine blk_alloc ?_ _)); exact BK739.out⟩, ⟨by repeat (first | (with_reducible first | exact HB.out | apply below_alloc | apply pw_below_drewN | apply below_drew1 | refine below_set ?_ GE739.out) | exact HB.out)⟩⟩
    · rw [if_neg c4] at H
      have c4b0 : decide (12 < (l0_0.length : Int)) = false := decide_eq_false c4
      have c4b1 : decide (12 < l0_0.length) = false := decide_eq_false (by omega)
      clear c4
      (first | rw [c4b0] | (simp only [i64_w, i32_w]; rw [c4b0]) | skip)
      replace H := Option.bind_eq_some_iff.mp H
      obtain ⟨t740, A60, H⟩ := H
      replace H : (spec_PickText.j0 k (!t740) l0_0 a0_1) = some r := H
      have A6 := Aside0.mk A60
      clear A60
      have H' := Aside0.mk H
      clear H
      have hcz7_0 : w3.cell? ⟨gb739, 0, none⟩ = some (.slice A0_0 l0_0.length c0_0) := (blk_cell BK739.out 0).trans rfl
      have hcz7_1 : w3.cell? ⟨gb739, 1, none⟩ = some (.int .i64 a0_1) := (blk_cell BK739.out 1).trans rfl
      have hfz7_0 := blk_frozen BK739.out 0
      have hfz7_1 := blk_frozen BK739.out 1
      go_wp2_with (first | (go_at_call 58; (try simp only [i64_w, i32_w]); (with_reducible refine (spec_l01In.calls a0_1 0 1 t740 _ A6.out).mono ?_); rintro e w' ⟨rfl, ⟨nd, rfl⟩⟩; (try first | exact ⟨rfl, _, World.drewN_drewN _ _ _⟩ | exact ⟨rfl, _, Eq.trans (World.drewN_drewN _ _ _) (congrArg (World.drewN _) (Nat.add_assoc _ _ _))⟩)))
      repeat (go_quiet (first | (go_at_call 58; (try simp only [i64_w, i32_w]); (with_reducible refine (spec_l01In.calls a0_1 0 1 t740 _ A6.out).mono ?_); rintro e w' ⟨rfl, ⟨nd, rfl⟩⟩; (try first | exact ⟨rfl, _, World.drewN_drewN _ _ _⟩ | exact ⟨rfl, _, Eq.trans (World.drewN_drewN _ _ _) (congrArg (World.drewN _) (Nat.add_assoc _ _ _))⟩))); try go_wp2_with (first | (go_at_call 58; (try simp only [i64_w, i32_w]); (with_reducible refine (spec_l01In.calls a0_1 0 1 t740 _ A6.out).mono ?_); rintro e w' ⟨rfl, ⟨nd, rfl⟩⟩; (try first | exact ⟨rfl, _, World.drewN_drewN _ _ _⟩ | exact ⟨rfl, _, Eq.trans (World.drewN_drewN _ _ _) (congrArg (World.drewN _) (Nat.add_assoc _ _ _))⟩))))
      go_meet
      case rel => exact ⟨_, (!t740), (by first | rfl | (simp; done) | (simp [*]; done)), H', ⟨by first | omega | exact Nat.le_refl _⟩, ⟨by (with_reducible repeat (first | refine blk_drewN ?_ _ | refine blk_drew ?_ | refine blk_alloc ?_ _)); exact BK739.out⟩, ⟨by repeat (first | (with_reducible first | exact HB.out | apply below_alloc | apply pw_below_drewN | apply below_drew1 | refine below_set ?_ GE739.out) | exact HB.out)⟩⟩
  case rest =>
    clear HC2
    try clear p2
    try clear c4
    try clear c4b0
    try clear c4b1
    try clear hcz5_0
    try clear hcz5_1
    try clear hcz7_0
    try clear hcz7_1
    try clear hfz5_0
    try clear hfz5_1
    try clear hfz7_0
    try clear hfz7_1
    obtain ⟨kq, x14_1, rfl, HA, HJ1, BK739, HB⟩ := hcut
    cases kq with
    | zero => exact absurd HA.out (by simp [spec_PickText.j0])
    | succ kj1 =>
      have H := HA.out
      clear HA
      simp only [spec_PickText.j0] at H
      by_cases c8 : x14_1 = true
      · subst c8
        have H1 : (some (⟨#[]⟩ : ByteArray)) = some r := by rw [if_pos rfl] at H; exact H
        clear H
        have H := H1
        clear H1
        obtain rfl := Option.some.inj H
        go_wp2
        repeat (go_quiet (fail); try go_wp2)
        go_ret
        exact ⟨by first | rfl | (simp [errW_none, errW_some] <;> rfl) | (simp [*, errW_none, errW_some] <;> rfl), by repeat (first | (with_reducible first | exact HB.out | apply below_alloc | apply pw_below_drewN | apply below_drew1 | refine below_set ?_ GE739.out) | exact HB.out)⟩
      · replace c8 := Bool.eq_false_iff.mpr c8
        subst c8
        have H1 : (spec_PickText.l0 kj1 (⟨#[]⟩ : ByteArray) 0 l0_0 a0_1) = some r := by rw [if_neg (show ¬ (false = true) by decide)] at H; exact H
        clear H
        have H := H1
        clear H1
        have H' := Aside0.mk H
        clear H
        go_wp2
        repeat (go_quiet (fail); try go_wp2)
        go_loopg [3, 4] kj1 (fun kq v3 v4 w' => ∃ (x3_2 : ByteArray) (x4_2 : Int), v3 = .string x3_2 ∧ v4 = .int .i64 x4_2 ∧ Aside0 (spec_PickText.l0 kq x3_2 x4_2 l0_0 a0_1 = some r) ∧ Aside0 (kq ≤ kj1) ∧ Aside0 (w'.heap[gb739]? = some (.cells #[(.slice A0_0 l0_0.length c0_0), .int .i64 a0_1] 68 (0, 0))) ∧ Aside0 (Below w.heap.size w w'))
        case atStart => exact ⟨((⟨#[]⟩ : ByteArray)), (0), (by first | rfl | (simp; done) | (simp [*]; done)), (by first | rfl | (simp; done) | (simp [*]; done)), H', ⟨Nat.le_refl _⟩, ⟨by (with_reducible repeat (first | refine blk_drewN ?_ _ | refine blk_drew ?_ | refine blk_alloc ?_ _)); exact BK739.out⟩, ⟨by repeat (first | (with_reducible first | exact HB.out | apply below_alloc | apply pw_below_drewN | apply below_drew1 | refine below_set ?_ GE739.out) | exact HB.out)⟩⟩
        case round =>
          clear H'
          try clear p2
          try clear c4
          try clear c4b0
          try clear c4b1
          try clear c8
          try clear hcz5_0
          try clear hcz5_1
          try clear hcz7_0
          try clear hcz7_1
          try clear hfz5_0
          try clear hfz5_1
          try clear hfz7_0
          try clear hfz7_1
          try clear p2
          obtain ⟨x3_2, x4_2, rfl, rfl, HA, HK2, BK739, HB⟩ := hrel
          cases gk with
          | zero => exact absurd HA.out (by simp [spec_PickText.l0])
          | succ k2 =>
            have H := HA.out
            clear HA
            simp only [spec_PickText.l0] at H
            by_cases c9 : x4_2 < (l0_0.length : Int)
            · rw [if_pos c9] at H
              have c9b0 : decide (x4_2 < (l0_0.length : Int)) = true := decide_eq_true c9
              clear c9
              by_cases c10 : 0 ≤ x4_2
              · rw [if_pos c10] at H
                have c10b0 : decide (0 ≤ x4_2) = true := decide_eq_true c10
                clear c10
                replace H := Option.bind_eq_some_iff.mp H
                obtain ⟨t742, A110, H⟩ := H
                replace H : (if t742 = true then (if 0 ≤ (rd l0_0 x4_2) then (if (rd l0_0 x4_2) ≤ (wrap64 ((rd l0_0 x4_2) + 1)) then (if (wrap64 ((rd l0_0 x4_2) + 1)) ≤ 2 then (if x3_2.size + ((⟨#[48, 49]⟩ : ByteArray).extract ((rd l0_0 x4_2) : Int).toNat ((wrap64 ((rd l0_0 x4_2) + 1)) : Int).toNat).size ≤ 9223372036854775807 then (spec_PickText.l0 k2 (x3_2 ++ ((⟨#[48, 49]⟩ : ByteArray).extract ((rd l0_0 x4_2) : Int).toNat ((wrap64 ((rd l0_0 x4_2) + 1)) : Int).toNat)) (wrap64 (x4_2 + 1)) l0_0 a0_1) else (none)) else (none)) else (none)) else (none)) else (some (⟨#[]⟩ : ByteArray))) = some r := H
                have A11 := Aside0.mk A110
                clear A110
                by_cases c12 : t742 = true
                · subst c12
                  have H1 : (if 0 ≤ (rd l0_0 x4_2) then (if (rd l0_0 x4_2) ≤ (wrap64 ((rd l0_0 x4_2) + 1)) then (if (wrap64 ((rd l0_0 x4_2) + 1)) ≤ 2 then (if x3_2.size + ((⟨#[48, 49]⟩ : ByteArray).extract ((rd l0_0 x4_2) : Int).toNat ((wrap64 ((rd l0_0 x4_2) + 1)) : Int).toNat).size ≤ 9223372036854775807 then (spec_PickText.l0 k2 (x3_2 ++ ((⟨#[48, 49]⟩ : ByteArray).extract ((rd l0_0 x4_2) : Int).toNat ((wrap64 ((rd l0_0 x4_2) + 1)) : Int).toNat)) (wrap64 (x4_2 + 1)) l0_0 a0_1) else (none)) else (none)) else (none)) else (none)) = some r := by rw [if_pos rfl] at H; exact H
                  clear H
                  have H := H1
                  clear H1
                  by_cases c13 : 0 ≤ (rd l0_0 x4_2)
                  · rw [if_pos c13] at H
                    have c13b0 := eq_true c13
                    have c13b1 : decide (0 ≤ (rd l0_0 x4_2)) = true := decide_eq_true c13
                    clear c13
                    by_cases c14 : (rd l0_0 x4_2) ≤ (wrap64 ((rd l0_0 x4_2) + 1))
                    · rw [if_pos c14] at H
                      have c14b0 := eq_true c14
                      have c14b1 : decide ((rd l0_0 x4_2) ≤ (wrap64 ((rd l0_0 x4_2) + 1))) = true := decide_eq_true c14
                      by_cases c15 : (wrap64 ((rd l0_0 x4_2) + 1)) ≤ 2
                      · rw [if_pos c15] at H
                        have c15b0 := eq_true c15
                        have c15b1 : decide ((wrap64 ((rd l0_0 x4_2) + 1)) ≤ 2) = true := decide_eq_true c15
                        by_cases c16 : x3_2.size + ((⟨#[48, 49]⟩ : ByteArray).extract ((rd l0_0 x4_2) : Int).toNat ((wrap64 ((rd l0_0 x4_2) + 1)) : Int).toNat).size ≤ 9223372036854775807
                        · rw [if_pos c16] at H
                          have c16b0 := eq_true c16
                          have c16b1 : decide (x3_2.size + ((⟨#[48, 49]⟩ : ByteArray).extract ((rd l0_0 x4_2) : Int).toNat ((wrap64 ((rd l0_0 x4_2) + 1)) : Int).toNat).size ≤ 9223372036854775807) = true := decide_eq_true c16
                          try have c16b2 : (9223372036854775807 < x3_2.size + ((⟨#[48, 49]⟩ : ByteArray).extract ((rd l0_0 x4_2) : Int).toNat ((wrap64 ((rd l0_0 x4_2) + 1)) : Int).toNat).size) = False := eq_false (Nat.not_lt.2 c16)
                          (try have c16b3 : (9223372036854775807 < x3_2.size + (((wrap64 ((rd l0_0 x4_2) + 1)) : Int).toNat - ((rd l0_0 x4_2) : Int).toNat)) = False := eq_false (by have z_0 : ((⟨#[48, 49]⟩ : ByteArray).extract ((rd l0_0 x4_2) : Int).toNat ((wrap64 ((rd l0_0 x4_2) + 1)) : Int).toNat).size = min ((wrap64 ((rd l0_0 x4_2) + 1)) : Int).toNat (⟨#[48, 49]⟩ : ByteArray).size - ((rd l0_0 x4_2) : Int).toNat := ByteArray.size_extract; (try have y_0 : (⟨#[48, 49]⟩ : ByteArray).size = 2 := rfl); omega))
                          have H' := Aside0.mk H
                          clear H
                          have hcz17_0 : wr.cell? ⟨gb739, 0, none⟩ = some (.slice A0_0 l0_0.length c0_0) := (blk_cell BK739.out 0).trans rfl
                          have hcz17_1 : wr.cell? ⟨gb739, 1, none⟩ = some (.int .i64 a0_1) := (blk_cell BK739.out 1).trans rfl
                          have hfz17_0 := blk_frozen BK739.out 0
                          have hfz17_1 := blk_frozen BK739.out 1
                          have p741 : 0 ≤ (x4_2 : Int) := of_decide_eq_true (by first | (with_reducible assumption) | assumption)
                          have q741 : x4_2 < (l0_0.length : Int) := of_decide_eq_true (by first | (with_reducible assumption) | assumption)
                          obtain ⟨ad741, e741, hx741_0⟩ := Kd.at_int HR0_0.out x4_2 p741 q741
                          cases e741
                          replace hx741_0 := (HB.out.cell (World.block_lt_of_cell? w _ hx741_0)).trans hx741_0
                          replace p741 := eq_true p741
                          replace q741 := eq_true q741
                          go_wp2_with (first | (go_at_call 58; (try simp only [i64_w, i32_w]); (with_reducible refine (spec_l01In.calls (rd l0_0 x4_2) 0 1 true _ A11.out).mono ?_); rintro e w' ⟨rfl, ⟨nd, rfl⟩⟩; (try first | exact ⟨rfl, _, World.drewN_drewN _ _ _⟩ | exact ⟨rfl, _, Eq.trans (World.drewN_drewN _ _ _) (congrArg (World.drewN _) (Nat.add_assoc _ _ _))⟩); have p743 : 0 ≤ (x4_2 : Int) := of_decide_eq_true (by first | (with_reducible assumption) | assumption); have q743 : x4_2 < (l0_0.length : Int) := of_decide_eq_true (by first | (with_reducible assumption) | assumption); obtain ⟨ad743, e743, hx743_0⟩ := Kd.at_int HR0_0.out x4_2 p743 q743; obtain rfl : ad741 = ad743 := (by injection e743); replace hx743_0 := (HB.out.cell (World.block_lt_of_cell? w _ hx743_0)).trans hx743_0; replace p743 := eq_true p743; replace q743 := eq_true q743; have p744 : 0 ≤ (x4_2 : Int) := of_decide_eq_true (by first | (with_reducible assumption) | assumption); have q744 : x4_2 < (l0_0.length : Int) := of_decide_eq_true (by first | (with_reducible assumption) | assumption); obtain ⟨ad744, e744, hx744_0⟩ := Kd.at_int HR0_0.out x4_2 p744 q744; obtain rfl : ad741 = ad744 := (by injection e744); replace hx744_0 := (HB.out.cell (World.block_lt_of_cell? w _ hx744_0)).trans hx744_0; replace p744 := eq_true p744; replace q744 := eq_true q744))
                          repeat (go_quiet (first | (go_at_call 58; (try simp only [i64_w, i32_w]); (with_reducible refine (spec_l01In.calls (rd l0_0 x4_2) 0 1 true _ A11.out).mono ?_); rintro e w' ⟨rfl, ⟨nd, rfl⟩⟩; (try first | exact ⟨rfl, _, World.drewN_drewN _ _ _⟩ | exact ⟨rfl, _, Eq.trans (World.drewN_drewN _ _ _) (congrArg (World.drewN _) (Nat.add_assoc _ _ _))⟩); have p743 : 0 ≤ (x4_2 : Int) := of_decide_eq_true (by first | (with_reducible assumption) | assumption); have q743 : x4_2 < (l0_0.length : Int) := of_decide_eq_true (by first | (with_reducible assumption) | assumption); obtain ⟨ad743, e743, hx743_0⟩ := Kd.at_int HR0_0.out x4_2 p743 q743; obtain rfl : ad741 = ad743 := (by injection e743); replace hx743_0 := (HB.out.cell (World.block_lt_of_cell? w _ hx743_0)).trans hx743_0; replace p743 := eq_true p743; replace q743 := eq_true q743; have p744 : 0 ≤ (x4_2 : Int) := of_decide_eq_true (by first | (with_reducible assumption) | assumption); have q744 : x4_2 < (l0_0.length : Int) := of_decide_eq_true (by first | (with_reducible assumption) | assumption); obtain ⟨ad744, e744, hx744_0⟩ := Kd.at_int HR0_0.out x4_2 p744 q744; obtain rfl : ad741 = ad744 := (by injection e744); replace hx744_0 := (HB.out.cell (World.block_lt_of_cell? w _ hx744_0)).trans hx744_0; replace p744 := eq_true p744; replace q744 := eq_true q744)); try go_wp2_with (first | (go_at_call 58; (try simp only [i64_w, i32_w]); (with_reducible refine (spec_l01In.calls (rd l0_0 x4_2) 0 1 true _ A11.out).mono ?_); rintro e w' ⟨rfl, ⟨nd, rfl⟩⟩; (try first | exact ⟨rfl, _, World.drewN_drewN _ _ _⟩ | exact ⟨rfl, _, Eq.trans (World.drewN_drewN _ _ _) (congrArg (World.drewN _) (Nat.add_assoc _ _ _))⟩); have p743 : 0 ≤ (x4_2 : Int) := of_decide_eq_true (by first | (with_reducible assumption) | assumption); have q743 : x4_2 < (l0_0.length : Int) := of_decide_eq_true (by first | (with_reducible assumption) | assumption); obtain ⟨ad743, e743, hx743_0⟩ := Kd.at_int HR0_0.out x4_2 p743 q743; obtain rfl : ad741 = ad743 := (by injection e743); replace hx743_0 := (HB.out.cell (World.block_lt_of_cell? w _ hx743_0)).trans hx743_0; replace p743 := eq_true p743; replace q743 := eq_true q743; have p744 : 0 ≤ (x4_2 : Int) := of_decide_eq_true (by first | (with_reducible assumption) | assumption); have q744 : x4_2 < (l0_0.length : Int) := of_decide_eq_true (by first | (with_reducible assumption) | assumption); obtain ⟨ad744, e744, hx744_0⟩ := Kd.at_int HR0_0.out x4_2 p744 q744; obtain rfl : ad741 = ad744 := (by injection e744); replace hx744_0 := (HB.out.cell (World.block_lt_of_cell? w _ hx744_0)).trans hx744_0; replace p744 := eq_true p744; replace q744 := eq_true q744)))
                          go_roundg k2
                          case measure => have := HJ1.out; have := HK2.out; omega
                          case rel => exact ⟨(x3_2 ++ ((⟨#[48, 49]⟩ : ByteArray).extract ((rd l0_0 x4_2) : Int).toNat ((wrap64 ((rd l0_0 x4_2) + 1)) : Int).toNat)), (wrap64 (x4_2 + 1)), (by first | rfl | (simp; done) | (simp [*]; done)), (by first | rfl | (simp; done) | (simp [*]; done)), H', ⟨by have := HJ1.out; have := HK2.out; omega⟩, ⟨by (with_reducible repeat (first | refine blk_drewN ?_ _ | refine blk_drew ?_ | refine blk_alloc ?_ _)); exact BK739.out⟩, ⟨by repeat (first | (with_reducible first | exact HB.out | apply below_alloc | apply pw_below_drewN | apply below_drew1 | refine below_set ?_ GE739.out) | exact HB.out)⟩⟩
                        · rw [if_neg c16] at H
                          exact absurd H (by simp)
                      · rw [if_neg c15] at H
                        exact absurd H (by simp)
                    · rw [if_neg c14] at H
                      exact absurd H (by simp)
                  · rw [if_neg c13] at H
                    exact absurd H (by simp)
                · replace c12 := Bool.eq_false_iff.mpr c12
                  subst c12
                  have H1 : (some (⟨#[]⟩ : ByteArray)) = some r := by rw [if_neg (show ¬ (false = true) by decide)] at H; exact H
                  clear H
                  have H := H1
                  clear H1
                  obtain rfl := Option.some.inj H
                  have hcz18_0 : wr.cell? ⟨gb739, 0, none⟩ = some (.slice A0_0 l0_0.length c0_0) := (blk_cell BK739.out 0).trans rfl
                  have hcz18_1 : wr.cell? ⟨gb739, 1, none⟩ = some (.int .i64 a0_1) := (blk_cell BK739.out 1).trans rfl
                  have hfz18_0 := blk_frozen BK739.out 0
                  have hfz18_1 := blk_frozen BK739.out 1
                  have p741 : 0 ≤ (x4_2 : Int) := of_decide_eq_true (by first | (with_reducible assumption) | assumption)
                  have q741 : x4_2 < (l0_0.length : Int) := of_decide_eq_true (by first | (with_reducible assumption) | assumption)
                  obtain ⟨ad741, e741, hx741_0⟩ := Kd.at_int HR0_0.out x4_2 p741 q741
                  cases e741
                  replace hx741_0 := (HB.out.cell (World.block_lt_of_cell? w _ hx741_0)).trans hx741_0
                  replace p741 := eq_true p741
                  replace q741 := eq_true q741
                  go_wp2_with (first | (go_at_call 58; (try simp only [i64_w, i32_w]); (with_reducible refine (spec_l01In.calls (rd l0_0 x4_2) 0 1 false _ A11.out).mono ?_); rintro e w' ⟨rfl, ⟨nd, rfl⟩⟩; (try first | exact ⟨rfl, _, World.drewN_drewN _ _ _⟩ | exact ⟨rfl, _, Eq.trans (World.drewN_drewN _ _ _) (congrArg (World.drewN _) (Nat.add_assoc _ _ _))⟩)))
                  repeat (go_quiet (first | (go_at_call 58; (try simp only [i64_w, i32_w]); (with_reducible refine (spec_l01In.calls (rd l0_0 x4_2) 0 1 false _ A11.out).mono ?_); rintro e w' ⟨rfl, ⟨nd, rfl⟩⟩; (try first | exact ⟨rfl, _, World.drewN_drewN _ _ _⟩ | exact ⟨rfl, _, Eq.trans (World.drewN_drewN _ _ _) (congrArg (World.drewN _) (Nat.add_assoc _ _ _))⟩))); try go_wp2_with (first | (go_at_call 58; (try simp only [i64_w, i32_w]); (with_reducible refine (spec_l01In.calls (rd l0_0 x4_2) 0 1 false _ A11.out).mono ?_); rintro e w' ⟨rfl, ⟨nd, rfl⟩⟩; (try first | exact ⟨rfl, _, World.drewN_drewN _ _ _⟩ | exact ⟨rfl, _, Eq.trans (World.drewN_drewN _ _ _) (congrArg (World.drewN _) (Nat.add_assoc _ _ _))⟩))))
                  go_ret
                  exact ⟨by first | rfl | (simp [errW_none, errW_some] <;> rfl) | (simp [*, errW_none, errW_some] <;> rfl), by repeat (first | (with_reducible first | exact HB.out | apply below_alloc | apply pw_below_drewN | apply below_drew1 | refine below_set ?_ GE739.out) | exact HB.out)⟩
              · rw [if_neg c10] at H
                exact absurd H (by simp)
            · rw [if_neg c9] at H
              have c9b0 : decide (x4_2 < (l0_0.length : Int)) = false := decide_eq_false c9
              clear c9
              by_cases c19 : x3_2.toList = ([] : List UInt8)
              · rw [if_pos c19] at H
                have c19b0 : (x3_2.toList == ([] : List UInt8)) = true := beq_iff_eq.mpr c19
                have c19b1 : (x3_2.toList != ([] : List UInt8)) = false := bne_eq_false_iff_eq.mpr c19
                clear c19
                by_cases c20 : 1 + 1 ≤ 9223372036854775807
                · rw [if_pos c20] at H
                  have c20b0 := eq_true c20
                  have c20b1 : decide (1 + 1 ≤ 9223372036854775807) = true := decide_eq_true c20
                  try have c20b2 : (9223372036854775807 < 1 + 1) = False := eq_false (Nat.not_lt.2 c20)
                  by_cases c21 : 0 ≤ a0_1
                  · rw [if_pos c21] at H
                    have c21b0 := eq_true c21
                    have c21b1 : decide (0 ≤ a0_1) = true := decide_eq_true c21
                    clear c21
                    by_cases c22 : a0_1 ≤ (wrap64 (a0_1 + 1))
                    · rw [if_pos c22] at H
                      have c22b0 := eq_true c22
                      have c22b1 : decide (a0_1 ≤ (wrap64 (a0_1 + 1))) = true := decide_eq_true c22
                      by_cases c23 : (wrap64 (a0_1 + 1)) ≤ 2
                      · rw [if_pos c23] at H
                        have c23b0 := eq_true c23
                        have c23b1 : decide ((wrap64 (a0_1 + 1)) ≤ 2) = true := decide_eq_true c23
                        by_cases c24 : 1 + 1 + ((⟨#[48, 49]⟩ : ByteArray).extract (a0_1 : Int).toNat ((wrap64 (a0_1 + 1)) : Int).toNat).size ≤ 9223372036854775807
                        · rw [if_pos c24] at H
                          have c24b0 := eq_true c24
                          have c24b1 : decide (1 + 1 + ((⟨#[48, 49]⟩ : ByteArray).extract (a0_1 : Int).toNat ((wrap64 (a0_1 + 1)) : Int).toNat).size ≤ 9223372036854775807) = true := decide_eq_true c24
                          try have c24b2 : (9223372036854775807 < 1 + 1 + ((⟨#[48, 49]⟩ : ByteArray).extract (a0_1 : Int).toNat ((wrap64 (a0_1 + 1)) : Int).toNat).size) = False := eq_false (Nat.not_lt.2 c24)
                          (try have c24b3 : (9223372036854775807 < 1 + 1 + (((wrap64 (a0_1 + 1)) : Int).toNat - (a0_1 : Int).toNat)) = False := eq_false (by have z_0 : ((⟨#[48, 49]⟩ : ByteArray).extract (a0_1 : Int).toNat ((wrap64 (a0_1 + 1)) : Int).toNat).size = min ((wrap64 (a0_1 + 1)) : Int).toNat (⟨#[48, 49]⟩ : ByteArray).size - (a0_1 : Int).toNat := ByteArray.size_extract; (try have y_0 : (⟨#[48, 49]⟩ : ByteArray).size = 2 := rfl); omega))
                          obtain rfl := Option.some.inj H
                          have hcz25_0 : wr.cell? ⟨gb739, 0, none⟩ = some (.slice A0_0 l0_0.length c0_0) := (blk_cell BK739.out 0).trans rfl
                          have hcz25_1 : wr.cell? ⟨gb739, 1, none⟩ = some (.int .i64 a0_1) := (blk_cell BK739.out 1).trans rfl
                          have hfz25_0 := blk_frozen BK739.out 0
                          have hfz25_1 := blk_frozen BK739.out 1
                          go_wp2
                          repeat (go_quiet (fail); try go_wp2)
                          go_ret
                          exact ⟨by first | rfl | (simp [errW_none, errW_some] <;> rfl) | (simp [*, errW_none, errW_some] <;> rfl), by repeat (first | (with_reducible first | exact HB.out | apply below_alloc | apply pw_below_drewN | apply below_drew1 | refine below_set ?_ GE739.out) | exact HB.out)⟩
                        · rw [if_neg c24] at H
                          exact absurd H (by simp)
                      · rw [if_neg c23] at H
                        exact absurd H (by simp)
                    · rw [if_neg c22] at H
                      exact absurd H (by simp)
                  · rw [if_neg c21] at H
                    exact absurd H (by simp)
                · rw [if_neg c20] at H
                  exact absurd H (by simp)
              · rw [if_neg c19] at H
                have c19b0 : (x3_2.toList == ([] : List UInt8)) = false := beq_eq_false_iff_ne.mpr c19
                have c19b1 : (x3_2.toList != ([] : List UInt8)) = true := bne_iff_ne.mpr c19
                by_cases c26 : x3_2.size + 1 ≤ 9223372036854775807
                · rw [if_pos c26] at H
                  have c26b0 := eq_true c26
                  have c26b1 : decide (x3_2.size + 1 ≤ 9223372036854775807) = true := decide_eq_true c26
                  try have c26b2 : (9223372036854775807 < x3_2.size + 1) = False := eq_false (Nat.not_lt.2 c26)
                  by_cases c27 : 0 ≤ a0_1
                  · rw [if_pos c27] at H
                    have c27b0 := eq_true c27
                    have c27b1 : decide (0 ≤ a0_1) = true := decide_eq_true c27
                    clear c27
                    by_cases c28 : a0_1 ≤ (wrap64 (a0_1 + 1))
                    · rw [if_pos c28] at H
                      have c28b0 := eq_true c28
                      have c28b1 : decide (a0_1 ≤ (wrap64 (a0_1 + 1))) = true := decide_eq_true c28
                      by_cases c29 : (wrap64 (a0_1 + 1)) ≤ 2
                      · rw [if_pos c29] at H
                        have c29b0 := eq_true c29
                        have c29b1 : decide ((wrap64 (a0_1 + 1)) ≤ 2) = true := decide_eq_true c29
                        by_cases c30 : x3_2.size + 1 + ((⟨#[48, 49]⟩ : ByteArray).extract (a0_1 : Int).toNat ((wrap64 (a0_1 + 1)) : Int).toNat).size ≤ 9223372036854775807
                        · rw [if_pos c30] at H
                          have c30b0 := eq_true c30
                          have c30b1 : decide (x3_2.size + 1 + ((⟨#[48, 49]⟩ : ByteArray).extract (a0_1 : Int).toNat ((wrap64 (a0_1 + 1)) : Int).toNat).size ≤ 9223372036854775807) = true := decide_eq_true c30
                          try have c30b2 : (9223372036854775807 < x3_2.size + 1 + ((⟨#[48, 49]⟩ : ByteArray).extract (a0_1 : Int).toNat ((wrap64 (a0_1 + 1)) : Int).toNat).size) = False := eq_false (Nat.not_lt.2 c30)
                          (try have c30b3 : (9223372036854775807 < x3_2.size + 1 + (((wrap64 (a0_1 + 1)) : Int).toNat - (a0_1 : Int).toNat)) = False := eq_false (by have z_0 : ((⟨#[48, 49]⟩ : ByteArray).extract (a0_1 : Int).toNat ((wrap64 (a0_1 + 1)) : Int).toNat).size = min ((wrap64 (a0_1 + 1)) : Int).toNat (⟨#[48, 49]⟩ : ByteArray).size - (a0_1 : Int).toNat := ByteArray.size_extract; (try have y_0 : (⟨#[48, 49]⟩ : ByteArray).size = 2 := rfl); omega))
                          obtain rfl := Option.some.inj H
                          have hcz31_0 : wr.cell? ⟨gb739, 0, none⟩ = some (.slice A0_0 l0_0.length c0_0) := (blk_cell BK739.out 0).trans rfl
                          have hcz31_1 : wr.cell? ⟨gb739, 1, none⟩ = some (.int .i64 a0_1) := (blk_cell BK739.out 1).trans rfl
                          have hfz31_0 := blk_frozen BK739.out 0
                          have hfz31_1 := blk_frozen BK739.out 1
                          go_wp2
                          repeat (go_quiet (fail); try go_wp2)
                          go_ret
                          exact ⟨by first | rfl | (simp [errW_none, errW_some] <;> rfl) | (simp [*, errW_none, errW_some] <;> rfl), by repeat (first | (with_reducible first | exact HB.out | apply below_alloc | apply pw_below_drewN | apply below_drew1 | refine below_set ?_ GE739.out) | exact HB.out)⟩
                        · rw [if_neg c30] at H
                          exact absurd H (by simp)
                      · rw [if_neg c29] at H
                        exact absurd H (by simp)
                    · rw [if_neg c28] at H
                      exact absurd H (by simp)
                  · rw [if_neg c27] at H
                    exact absurd H (by simp)
                · rw [if_neg c26] at H
                  exact absurd H (by simp)

end Go.Proofs.Yteagogcpbcickaa.G
-- written by a program of this session (wip/gen/gen.py); Lean checks it
namespace Go.Proofs.Yteagogcpbcickaa.G
open Go.RowKit Go.Proofs.YteagogcpbcickaaW.PrintWords Go.Proofs.YteagogcpbcickaaW.PrintLast Go.Proofs.YteagogcpbcickaaW.PrintMore
attribute [local go_sem] max2_int min2_int max_two min_two max_three min_three max_four min_four   -- for this text's walks alone
set_option linter.unusedVariables false
set_option linter.unusedSimpArgs false

/-! ### spec_ReadPick: function 53 -/
mutual
def spec_ReadPick.j0 : Nat → ByteArray → Bool → Option (List Int × Int × Bool)
  | 0, _, _ => none
  | k + 1, x0, x13 => if x13 = true then (some (([] : List Int), 0, false)) else (if 0 ≤ (wrap64 ((x0.size : Int) - 1)) then (if (wrap64 ((x0.size : Int) - 1)) < (x0.size : Int) then (spec_ReadPick.l0 k x0 0 ([] : List Int) (wrap64 ((wrap64 (bt x0 (wrap64 ((x0.size : Int) - 1)))) - 48))) else (none)) else (none))
def spec_ReadPick.l0 : Nat → ByteArray → Int → List Int → Int → Option (List Int × Int × Bool)
  | 0, _, _, _, _ => none
  | k + 1, x0, x5, x796000, x796001 => if x5 < (wrap64 ((x0.size : Int) - 2)) then (if 0 < (x0.size : Int) then (if (bt x0 0) = 45 then ((spec_PickText.f k x796000 x796001).bind fun t796 => (if t796.toList = x0.toList then (some (x796000, x796001, true)) else (some (([] : List Int), 0, false)))) else (if 0 ≤ x5 then (if x5 < (x0.size : Int) then (if x796000.length < 17592186044416 then (spec_ReadPick.l0 k x0 (wrap64 (x5 + 1)) (x796000 ++ [wrap64 ((wrap64 (bt x0 x5)) - 48)]) x796001) else (none)) else (none)) else (none))) else (none)) else ((spec_PickText.f k x796000 x796001).bind fun t800 => (if t800.toList = x0.toList then (some (x796000, x796001, true)) else (some (([] : List Int), 0, false))))
end
def spec_ReadPick.f (k : Nat) (a0 : ByteArray) : Option (List Int × Int × Bool) := if (a0.size : Int) < 3 then (spec_ReadPick.j0 k a0 true) else (spec_ReadPick.j0 k a0 (decide ((a0.size : Int) > 20)))
def spec_ReadPick.T7 : Bool × List (List Nat × List Nat) := (true, [([], []), ([0], [0]), ([], []), ([], []), ([2, 3], [2, 3]), ([4], [4]), ([5], [5]), ([6], [6]), ([1, 7], [1, 7]), ([0, 1, 2, 3, 4, 5, 6, 7, 8], []), ([9, 8, 8, 0, 1, 2, 3, 4, 5, 6, 7, 8], [8, 9])])
def spec_ReadPick.B7 : List Nat := [0, 1, 0, 0, 12, 28, 60, 124, 255, 511, 1023]
theorem spec_ReadPick.tab7 : rtab .any (opsOf Try.f53 7) = spec_ReadPick.T7 := by kernel_rfl
theorem spec_ReadPick.bits7 : waitsOk spec_ReadPick.T7.2 spec_ReadPick.B7 = true := by kernel_rfl
set_option maxHeartbeats 8000000 in
set_option maxRecDepth 100000 in
theorem spec_ReadPick.calls (k : Nat) (a0 : ByteArray) (r1 : List Int) (r2 : Int) (r3 : Bool) (w : World) (h : spec_ReadPick.f k a0 = some (r1, r2, r3)) :
    Calls Try.prog 53 #[.string a0] w fun e w' => ∃ v0_ : Value, e = .returned (.tuple #[.agg #[v0_, .int .i64 r2], .bool r3]) ∧ Kd.R (Kd.int .i64) 3 w' w.heap.size (fun _ => True) v0_ r1 ∧ Below w.heap.size w w' := by
  have hu68 := Try.underlying68
  have HB := Aside0.mk (Below.refl w.heap.size w)
  have H : (if (a0.size : Int) < 3 then (spec_ReadPick.j0 k a0 true) else (spec_ReadPick.j0 k a0 (decide ((a0.size : Int) > 20)))) = some (r1, r2, r3) := h
  clear h
  have HC2 := Aside0.mk H
  clear H
  go_enter Try.func53, Try.ntmps53
  go_upto_region 1 with (first | ((with_reducible refine gate_dst (N := 2) rfl ?_); (try (refine gate_guard (by rfl) ?_; dsimp only)); refine box_event ?hg (N := 2) ?hd (cs := #[.slice none 0 0, .int .i64 0]) (t := 68) ?hr ?_; (case hd => rfl); (case hg => rfl); (case hr => first | (go_simp; done) | (go_simp; rfl)); intro gb794 hg w3 hbox hb; have n0_ := Aside0.mk (below_step (by repeat (first | (with_reducible first | exact HB.out | apply below_alloc | apply pw_below_drewN | apply below_drew1) | exact HB.out)) hb); have n1_ := Aside0.mk (hbox); have n2_ := Aside0.mk ((by rw [hg]; exact (below_size (by repeat (first | (with_reducible first | exact HB.out | apply below_alloc | apply pw_below_drewN | apply below_drew1) | exact HB.out))) : w.heap.size ≤ gb794)); have n3_ := Aside0.mk ((by rw [hg]; exact (below_size (by repeat (first | (with_reducible first | exact HB.out | apply below_alloc | apply pw_below_drewN | apply below_drew1) | exact HB.out))) : w.heap.size ≤ gb794)); clear HB; have HB := n0_; have BK794 := n1_; have GW794 := n2_; have GE794 := n3_; clear n0_ n1_ n2_ n3_; clear hb hbox hg))
  (try simp only [Act.put, List.setIfInBounds_toArray, List.set_cons_zero, List.set_cons_succ])
  go_cut [13] (fun v13 wc => ∃ (kq : Nat) (x13_1 : Bool), v13 = .bool x13_1 ∧ Aside0 (spec_ReadPick.j0 kq a0 x13_1 = some (r1, r2, r3)) ∧ Aside0 (kq ≤ k) ∧ Aside0 (wc.heap[gb794]? = some (.cells #[(.slice none 0 0), .int .i64 0] 68 (0, 0))) ∧ Aside0 (Below w.heap.size w wc))
  case first =>
    have H := HC2.out
    clear HC2
    by_cases c4 : (a0.size : Int) < 3
    · rw [if_pos c4] at H
      have c4b0 : decide ((a0.size : Int) < 3) = true := decide_eq_true c4
      have c4b1 : decide (a0.size < 3) = true := decide_eq_true (by omega)
      clear c4
      (first | rw [c4b0] | (simp only [i64_w, i32_w]; rw [c4b0]) | skip)
      have H' := Aside0.mk H
      clear H
      go_wp2
      go_meet
      case rel => exact ⟨_, (true), (by first | rfl | (simp; done) | (simp [*]; done)), H', ⟨by first | omega | exact Nat.le_refl _⟩, ⟨by (with_reducible repeat (first | refine blk_drewN ?_ _ | refine blk_drew ?_ | refine blk_alloc ?_ _)); exact BK794.out⟩, ⟨by repeat (first | (with_reducible first | exact HB.out | apply below_alloc | apply pw_below_drewN | apply below_drew1 | refine below_set ?_ GE794.out) | exact HB.out)⟩⟩
    · rw [if_neg c4] at H
      have c4b0 : decide ((a0.size : Int) < 3) = false := decide_eq_false c4
      have c4b1 : decide (a0.size < 3) = false := decide_eq_false (by omega)
      clear c4
      (first | rw [c4b0] | (simp only [i64_w, i32_w]; rw [c4b0]) | skip)
      have H' := Aside0.mk H
      clear H
      go_wp2
      go_meet
      case rel => exact ⟨_, (decide ((a0.size : Int) > 20)), (by first | rfl | (simp; done) | (simp [*]; done)), H', ⟨by first | omega | exact Nat.le_refl _⟩, ⟨by (with_reducible repeat (first | refine blk_drewN ?_ _ | refine blk_drew ?_ | refine blk_alloc ?_ _)); exact BK794.out⟩, ⟨by repeat (first | (with_reducible first | exact HB.out | apply below_alloc | apply pw_below_drewN | apply below_drew1 | refine below_set ?_ GE794.out) | exact HB.out)⟩⟩
  case rest =>
    clear HC2
    try clear p2
    try clear c4
    try clear c4b0
    try clear c4b1
    obtain ⟨kq, x13_1, rfl, HA, HJ1, BK794, HB⟩ := hcut
    cases kq with
    | zero => exact absurd HA.out (by simp [spec_ReadPick.j0])
    | succ kj1 =>
      have H := HA.out
      clear HA
      simp only [spec_ReadPick.j0] at H
      by_cases c5 : x13_1 = true
      · subst c5
        have H1 : (some (([] : List Int), 0, false)) = some (r1, r2, r3) := by rw [if_pos rfl] at H; exact H
        clear H
        have H := H1
        clear H1
        simp only [Option.some.injEq, Prod.mk.injEq] at H
        obtain ⟨rfl, rfl, rfl⟩ := H
        have hcz6_0 : wc.cell? ⟨gb794, 0, none⟩ = some (.slice none 0 0) := (blk_cell BK794.out 0).trans rfl
        have hcz6_1 : wc.cell? ⟨gb794, 1, none⟩ = some (.int .i64 0) := (blk_cell BK794.out 1).trans rfl
        have hfz6_0 := blk_frozen BK794.out 0
        have hfz6_1 := blk_frozen BK794.out 1
        go_wp2
        refine bodyPost_ret (results_ct rfl _ _ gb794 68 #[.slice none 0 0, .int .i64 0] (0, 0) _ rfl (by (with_reducible repeat (first | refine blk_drewN ?_ _ | refine blk_drew ?_ | refine blk_alloc ?_ _)); refine blk_put (cs := #[.slice none 0 0, .int .i64 0]) ?_ 1 _ rfl; (with_reducible repeat (first | refine blk_drewN ?_ _ | refine blk_drew ?_ | refine blk_alloc ?_ _)); refine blk_put (cs := #[.slice none 0 0, .int .i64 0]) ?_ 0 _ rfl; (with_reducible repeat (first | refine blk_drewN ?_ _ | refine blk_drew ?_ | refine blk_alloc ?_ _)); exact BK794.out) Try.underlying68 rfl (by kernel_rfl)) rfl ?_
        exact ⟨_, by first | rfl | (simp [errW_none, errW_some] <;> rfl) | (simp [*, errW_none, errW_some] <;> rfl), by first | exact Kd.R_nil _ _ _ _ _ | exact Kd.N_nil _ _ _ _ _ | exact Kd.V_nil _ _ _ _ _ | exact Kd.Q_nil _ _ _ _ _ | exact Kd.S_nil _ _ _ _ _, by repeat (first | (with_reducible first | exact HB.out | apply below_alloc | apply pw_below_drewN | apply below_drew1 | refine below_set ?_ GE794.out) | exact HB.out)⟩
      · replace c5 := Bool.eq_false_iff.mpr c5
        subst c5
        have H1 : (if 0 ≤ (wrap64 ((a0.size : Int) - 1)) then (if (wrap64 ((a0.size : Int) - 1)) < (a0.size : Int) then (spec_ReadPick.l0 kj1 a0 0 ([] : List Int) (wrap64 ((wrap64 (bt a0 (wrap64 ((a0.size : Int) - 1)))) - 48))) else (none)) else (none)) = some (r1, r2, r3) := by rw [if_neg (show ¬ (false = true) by decide)] at H; exact H
        clear H
        have H := H1
        clear H1
        obtain ⟨ji7, hji7⟩ : ∃ j_ : Int, (wrap64 ((a0.size : Int) - 1)) = j_ := ⟨_, rfl⟩
        replace H : (if 0 ≤ (ji7) then (if (ji7) < (a0.size : Int) then (spec_ReadPick.l0 kj1 a0 0 ([] : List Int) (wrap64 ((wrap64 (bt a0 (ji7))) - 48))) else (none)) else (none)) = some (r1, r2, r3) := by first | (rw [hji7] at H; exact H) | (simp only [hji7] at H ⊢; exact H)
        have hji7w : (IntKind.i64.wrap ((a0.size : Int) - 1)) = ji7 := (i64_w _).trans hji7
        by_cases c8 : 0 ≤ (ji7)
        · rw [if_pos c8] at H
          have c8b0 : decide (0 ≤ (ji7)) = true := decide_eq_true c8
          clear c8
          by_cases c9 : (ji7) < (a0.size : Int)
          · rw [if_pos c9] at H
            have c9b0 : decide ((ji7) < (a0.size : Int)) = true := decide_eq_true c9
            clear c9
            have H' := Aside0.mk H
            clear H
            have p10 : 0 ≤ ((ji7) : Int) := of_decide_eq_true (by first | (with_reducible assumption) | assumption)
            have q10 : (ji7) < (a0.size : Int) := of_decide_eq_true (by first | (with_reducible assumption) | assumption)
            have hx10 := bt_at a0 (ji7)
            replace p10 := eq_true p10
            replace q10 := eq_true q10
            go_wp2_with (first | ((with_reducible refine gate_dst (N := 4) rfl ?_); (try (refine gate_guard (by rfl) ?_; dsimp only)); refine box_event ?hg (N := 4) ?hd (cs := #[.slice none 0 0, .int .i64 0]) (t := 68) ?hr ?_; (case hd => rfl); (case hg => rfl); (case hr => first | (go_simp; done) | (go_simp; rfl)); intro gb795 hg w11 hbox hb; have n0_ := Aside0.mk (blk_below (g := gb794) (o := .cells #[.slice none 0 0, .int .i64 0] 68 (0, 0)) (by (with_reducible repeat (first | refine blk_drewN ?_ _ | refine blk_drew ?_ | refine blk_alloc ?_ _)); exact BK794.out) hb); have n1_ := Aside0.mk (below_step (by repeat (first | (with_reducible first | exact HB.out | apply below_alloc | apply pw_below_drewN | apply below_drew1 | refine below_set ?_ GE794.out) | exact HB.out)) hb); have n2_ := Aside0.mk (hbox); have n3_ := Aside0.mk ((by rw [hg]; exact (below_size (by repeat (first | (with_reducible first | exact HB.out | apply below_alloc | apply pw_below_drewN | apply below_drew1 | refine below_set ?_ GE794.out) | exact HB.out))) : w.heap.size ≤ gb795)); have n4_ := Aside0.mk ((by rw [hg]; exact (below_size (by repeat (first | (with_reducible first | exact HB.out | apply below_alloc | apply pw_below_drewN | apply below_drew1 | refine below_set ?_ GE794.out) | exact HB.out))) : w.heap.size ≤ gb795)); have n5_ := Aside0.mk ((by rw [hg]; exact Nat.ne_of_lt (blk_lt (g := gb794) (o := .cells #[.slice none 0 0, .int .i64 0] 68 (0, 0)) (by (with_reducible repeat (first | refine blk_drewN ?_ _ | refine blk_drew ?_ | refine blk_alloc ?_ _)); exact BK794.out)) : gb794 ≠ gb795)); have n6_ := Aside0.mk ((by rw [hg]; exact Nat.ne_of_gt (blk_lt (g := gb794) (o := .cells #[.slice none 0 0, .int .i64 0] 68 (0, 0)) (by (with_reducible repeat (first | refine blk_drewN ?_ _ | refine blk_drew ?_ | refine blk_alloc ?_ _)); exact BK794.out)) : gb795 ≠ gb794)); clear BK794; clear HB; have BK794 := n0_; have HB := n1_; have BK795 := n2_; have GW795 := n3_; have GE795 := n4_; have NB794_795 := n5_; have NB795_794 := n6_; clear n0_ n1_ n2_ n3_ n4_ n5_ n6_; clear hb hbox hg; have hnb12 := NB795_794.out; have hnc12 := NB794_795.out; have hcz13_0 : w11.cell? ⟨gb795, 0, none⟩ = some (.slice none 0 0) := (blk_cell BK795.out 0).trans rfl; have hcz13_1 : w11.cell? ⟨gb795, 1, none⟩ = some (.int .i64 0) := (blk_cell BK795.out 1).trans rfl; have hfz13_0 := blk_frozen BK795.out 0; have hfz13_1 := blk_frozen BK795.out 1))
            go_loopg [5] kj1 (fun kq v5 w' => ∃ (x5_2 : Int) (x796000_2 : List Int) (u796000 : Value), v5 = .int .i64 x5_2 ∧ Aside0 (spec_ReadPick.l0 kq a0 x5_2 x796000_2 (wrap64 ((wrap64 (bt a0 (ji7))) - 48)) = some (r1, r2, r3)) ∧ Aside0 (kq ≤ kj1) ∧ Aside0 (Kd.R (Kd.int .i64) 3 w' w.heap.size (fun _ => True) u796000 x796000_2) ∧ Aside0 (w'.heap[gb794]? = some (.cells #[(.slice none 0 0), .int .i64 0] 68 (0, 0))) ∧ Aside0 (w'.heap[gb795]? = some (.cells #[u796000, .int .i64 (wrap64 ((wrap64 (bt a0 (ji7))) - 48))] 68 (0, 0))) ∧ Aside0 (Below w.heap.size w w'))
            case atStart => exact ⟨(0), (([] : List Int)), (.slice none 0 0), (by first | rfl | (simp; done) | (simp [*]; done)), H', ⟨Nat.le_refl _⟩, ⟨by first | exact Kd.R_nil _ _ _ _ _ | exact Kd.N_nil _ _ _ _ _ | exact Kd.V_nil _ _ _ _ _ | exact Kd.Q_nil _ _ _ _ _ | exact Kd.S_nil _ _ _ _ _⟩, ⟨by (with_reducible repeat (first | refine blk_drewN ?_ _ | refine blk_drew ?_ | refine blk_alloc ?_ _)); refine blk_far ?_ NB794_795.out _; (with_reducible repeat (first | refine blk_drewN ?_ _ | refine blk_drew ?_ | refine blk_alloc ?_ _)); refine blk_far ?_ NB794_795.out _; (with_reducible repeat (first | refine blk_drewN ?_ _ | refine blk_drew ?_ | refine blk_alloc ?_ _)); exact BK794.out⟩, ⟨by (with_reducible repeat (first | refine blk_drewN ?_ _ | refine blk_drew ?_ | refine blk_alloc ?_ _)); refine blk_put (cs := #[.slice none 0 0, .int .i64 0]) ?_ 1 _ rfl; (with_reducible repeat (first | refine blk_drewN ?_ _ | refine blk_drew ?_ | refine blk_alloc ?_ _)); refine blk_put (cs := #[.slice none 0 0, .int .i64 0]) ?_ 0 _ rfl; (with_reducible repeat (first | refine blk_drewN ?_ _ | refine blk_drew ?_ | refine blk_alloc ?_ _)); exact BK795.out⟩, ⟨by repeat (first | (with_reducible first | exact HB.out | apply below_alloc | apply pw_below_drewN | apply below_drew1 | refine below_set ?_ GE794.out | refine below_set ?_ GE795.out) | exact HB.out)⟩⟩
            case round =>
              clear H'
              try clear c1
              try clear p1
              try clear q1
              try clear hx1
              try clear p2
              try clear c4
              try clear c4b0
              try clear c4b1
              try clear c5
              try clear p6
              try clear c8
              try clear c8b0
              try clear c9
              try clear c9b0
              try clear p10
              try clear q10
              try clear hx10
              try clear c12
              try clear hcz13_0
              try clear hcz13_1
              try clear hcz6_0
              try clear hcz6_1
              try clear hfz13_0
              try clear hfz13_1
              try clear hfz6_0
              try clear hfz6_1
              try clear p10
              try clear p2
              try clear q10
              obtain ⟨x5_2, x796000_2, u796000, rfl, HA, HK2, HO_796000, BK794, BK795, HB⟩ := hrel
              cases gk with
              | zero => exact absurd HA.out (by simp [spec_ReadPick.l0])
              | succ k2 =>
                have H := HA.out
                clear HA
                simp only [spec_ReadPick.l0] at H
                by_cases c14 : x5_2 < (wrap64 ((a0.size : Int) - 2))
                · rw [if_pos c14] at H
                  have c14b0 : decide (x5_2 < (wrap64 ((a0.size : Int) - 2))) = true := decide_eq_true c14
                  clear c14
                  by_cases c15 : 0 < (a0.size : Int)
                  · rw [if_pos c15] at H
                    have c15b0 : decide (0 < (a0.size : Int)) = true := decide_eq_true c15
                    have c15b1 : decide (0 < a0.size) = true := decide_eq_true (by omega)
                    clear c15
                    by_cases c17 : (bt a0 0) = 45
                    · rw [if_pos c17] at H
                      have c17b0 : ((bt a0 0) == 45) = true := beq_iff_eq.mpr c17
                      have c17b1 : ((bt a0 0) != 45) = false := bne_eq_false_iff_eq.mpr c17
                      clear c17
                      replace H := Option.bind_eq_some_iff.mp H
                      obtain ⟨t796, A180, H⟩ := H
                      replace H : (if t796.toList = a0.toList then (some (x796000_2, (wrap64 ((wrap64 (bt a0 (ji7))) - 48)), true)) else (some (([] : List Int), 0, false))) = some (r1, r2, r3) := H
                      have A18 := Aside0.mk A180
                      clear A180
                      by_cases c19 : t796.toList = a0.toList
                      · rw [if_pos c19] at H
                        have c19b0 : (t796.toList == a0.toList) = true := beq_iff_eq.mpr c19
                        have c19b1 : (t796.toList != a0.toList) = false := bne_eq_false_iff_eq.mpr c19
                        clear c19
                        simp only [Option.some.injEq, Prod.mk.injEq] at H
                        obtain ⟨rfl, rfl, rfl⟩ := H
                        have p16 : 0 ≤ (0 : Int) := (by omega)
                        have q16 : 0 < a0.size := (by have : (0 : Int) < (a0.size : Int) := of_decide_eq_true (by first | (with_reducible assumption) | assumption); omega)
                        have hx16 : ∀ h : 0 < a0.size, ((a0[0]'h).toNat : Int) = bt a0 0 := bt_at a0 0
                        clear p16
                        have qi16 : (0 < (a0.size : Int)) = True := eq_true (of_decide_eq_true (by first | (with_reducible assumption) | assumption))
                        replace q16 := eq_true q16
                        have hnb20 := NB795_794.out
                        have hnc20 := NB794_795.out
                        have hcz21_0 : wr.cell? ⟨gb795, 0, none⟩ = some (u796000) := (blk_cell BK795.out 0).trans rfl
                        have hcz21_1 : wr.cell? ⟨gb795, 1, none⟩ = some (.int .i64 (wrap64 ((wrap64 (bt a0 (ji7))) - 48))) := (blk_cell BK795.out 1).trans rfl
                        have hfz21_0 := blk_frozen BK795.out 0
                        have hfz21_1 := blk_frozen BK795.out 1
                        obtain ⟨Ao22, co22, eo22⟩ := Kd.R_slice HO_796000.out
                        subst eo22
                        go_wp2_with (first | ((with_reducible refine gate_callee (f := 49) rfl ?_); refine goesL_ (some 46) rfl rfl Try.func49 (by kernel_rfl) rfl #[.agg #[.slice Ao22 x796000_2.length co22, .int .i64 (wrap64 ((wrap64 (bt a0 (ji7))) - 48))]] rfl (by (try simp only [List.map_toArray, List.map_cons, List.map_nil]); first | done | (simp only [hji7]; rfl) | rfl | (simp only [List.length_drop, List.length_take]; rfl)) ?_; (with_reducible refine (spec_PickText.calls k2 _ _ x796000_2 (wrap64 ((wrap64 (bt a0 (ji7))) - 48)) t796 _ ?side1 ?side2 A18.out).mono ?_); (case side1 => repeat (first | exact (Kd.R_reads' HO_796000.out).2.2 | (with_reducible refine Kd.C_alloc ?_ _) | (with_reducible refine Kd.C_drewN ?_ _) | (with_reducible refine Kd.C_drew ?_))); (case side2 => exact (Kd.R_reads' HO_796000.out).2.1); rintro e w23 ⟨rfl, hb⟩; refine ⟨_, rfl, ?_⟩; have n0_ := Aside0.mk (Kd.R_below (by (with_reducible repeat (first | apply Kd.R_alloc | apply Kd.R_drewN | apply Kd.R_drew)); exact HO_796000.out) hb); have n1_ := Aside0.mk (blk_below (g := gb794) (o := .cells #[.slice none 0 0, .int .i64 0] 68 (0, 0)) (by (with_reducible repeat (first | refine blk_drewN ?_ _ | refine blk_drew ?_ | refine blk_alloc ?_ _)); exact BK794.out) hb); have n2_ := Aside0.mk (blk_below (g := gb795) (o := .cells #[.slice Ao22 x796000_2.length co22, .int .i64 (wrap64 ((wrap64 (bt a0 (ji7))) - 48))] 68 (0, 0)) (by (with_reducible repeat (first | refine blk_drewN ?_ _ | refine blk_drew ?_ | refine blk_alloc ?_ _)); exact BK795.out) hb); have n3_ := Aside0.mk (below_step (by repeat (first | (with_reducible first | exact HB.out | apply below_alloc | apply pw_below_drewN | apply below_drew1 | refine below_set ?_ GE794.out | refine below_set ?_ GE795.out) | exact HB.out)) hb); clear HO_796000; clear BK794; clear BK795; clear HB; have HO_796000 := n0_; have BK794 := n1_; have BK795 := n2_; have HB := n3_; clear n0_ n1_ n2_ n3_; (try clear hb); (try clear hb2); (try clear hk); (try clear hi); have hcz24_0 : w23.cell? ⟨gb795, 0, none⟩ = some (.slice Ao22 x796000_2.length co22) := (blk_cell BK795.out 0).trans rfl; have hcz24_1 : w23.cell? ⟨gb795, 1, none⟩ = some (.int .i64 (wrap64 ((wrap64 (bt a0 (ji7))) - 48))) := (blk_cell BK795.out 1).trans rfl; have hfz24_0 := blk_frozen BK795.out 0; have hfz24_1 := blk_frozen BK795.out 1; have hcz25_0 : w23.cell? ⟨gb794, 0, none⟩ = some (.slice none 0 0) := (blk_cell BK794.out 0).trans rfl; have hcz25_1 : w23.cell? ⟨gb794, 1, none⟩ = some (.int .i64 0) := (blk_cell BK794.out 1).trans rfl; have hfz25_0 := blk_frozen BK794.out 0; have hfz25_1 := blk_frozen BK794.out 1))
                        refine bodyPost_ret (results_ct rfl _ _ gb794 68 #[.slice Ao22 x796000_2.length co22, .int .i64 (wrap64 ((wrap64 (bt a0 (ji7))) - 48))] (0, 0) _ rfl (by (with_reducible repeat (first | refine blk_drewN ?_ _ | refine blk_drew ?_ | refine blk_alloc ?_ _)); refine blk_put (cs := #[.slice Ao22 x796000_2.length co22, .int .i64 0]) ?_ 1 _ rfl; (with_reducible repeat (first | refine blk_drewN ?_ _ | refine blk_drew ?_ | refine blk_alloc ?_ _)); refine blk_put (cs := #[.slice none 0 0, .int .i64 0]) ?_ 0 _ rfl; (with_reducible repeat (first | refine blk_drewN ?_ _ | refine blk_drew ?_ | refine blk_alloc ?_ _)); exact BK794.out) Try.underlying68 rfl (by kernel_rfl)) rfl ?_
                        exact ⟨_, by first | rfl | (simp [errW_none, errW_some] <;> rfl) | (simp only [← hji7]; first | rfl | (simp [errW_none, errW_some] <;> rfl)) | (simp [*, errW_none, errW_some] <;> rfl), by (with_reducible repeat (first | apply Kd.R_alloc | apply Kd.R_drewN | apply Kd.R_drew)); exact Kd.R_mono (Kd.R_far (p := ⟨gb794, 1, none⟩) (Kd.R_far (p := ⟨gb794, 0, none⟩) (Kd.R_types HO_796000.out BK794.out (by decide)) (fun _ hk => hk.2) (.slice Ao22 x796000_2.length co22)) (fun _ hk => hk.2) (.int .i64 (wrap64 ((wrap64 (bt a0 (ji7))) - 48)))) (fun _ hk => trivial), by repeat (first | (with_reducible first | exact HB.out | apply below_alloc | apply pw_below_drewN | apply below_drew1 | refine below_set ?_ GE794.out | refine below_set ?_ GE795.out) | exact HB.out)⟩
                      · rw [if_neg c19] at H
                        have c19b0 : (t796.toList == a0.toList) = false := beq_eq_false_iff_ne.mpr c19
                        have c19b1 : (t796.toList != a0.toList) = true := bne_iff_ne.mpr c19
                        simp only [Option.some.injEq, Prod.mk.injEq] at H
                        obtain ⟨rfl, rfl, rfl⟩ := H
                        have p16 : 0 ≤ (0 : Int) := (by omega)
                        have q16 : 0 < a0.size := (by have : (0 : Int) < (a0.size : Int) := of_decide_eq_true (by first | (with_reducible assumption) | assumption); omega)
                        have hx16 : ∀ h : 0 < a0.size, ((a0[0]'h).toNat : Int) = bt a0 0 := bt_at a0 0
                        clear p16
                        have qi16 : (0 < (a0.size : Int)) = True := eq_true (of_decide_eq_true (by first | (with_reducible assumption) | assumption))
                        replace q16 := eq_true q16
                        have hnb26 := NB795_794.out
                        have hnc26 := NB794_795.out
                        have hcz27_0 : wr.cell? ⟨gb795, 0, none⟩ = some (u796000) := (blk_cell BK795.out 0).trans rfl
                        have hcz27_1 : wr.cell? ⟨gb795, 1, none⟩ = some (.int .i64 (wrap64 ((wrap64 (bt a0 (ji7))) - 48))) := (blk_cell BK795.out 1).trans rfl
                        have hfz27_0 := blk_frozen BK795.out 0
                        have hfz27_1 := blk_frozen BK795.out 1
                        obtain ⟨Ao28, co28, eo28⟩ := Kd.R_slice HO_796000.out
                        subst eo28
                        go_wp2_with (first | ((with_reducible refine gate_callee (f := 49) rfl ?_); refine goesL_ (some 46) rfl rfl Try.func49 (by kernel_rfl) rfl #[.agg #[.slice Ao28 x796000_2.length co28, .int .i64 (wrap64 ((wrap64 (bt a0 (ji7))) - 48))]] rfl (by (try simp only [List.map_toArray, List.map_cons, List.map_nil]); first | done | (simp only [hji7]; rfl) | rfl | (simp only [List.length_drop, List.length_take]; rfl)) ?_; (with_reducible refine (spec_PickText.calls k2 _ _ x796000_2 (wrap64 ((wrap64 (bt a0 (ji7))) - 48)) t796 _ ?side1 ?side2 A18.out).mono ?_); (case side1 => repeat (first | exact (Kd.R_reads' HO_796000.out).2.2 | (with_reducible refine Kd.C_alloc ?_ _) | (with_reducible refine Kd.C_drewN ?_ _) | (with_reducible refine Kd.C_drew ?_))); (case side2 => exact (Kd.R_reads' HO_796000.out).2.1); rintro e w29 ⟨rfl, hb⟩; refine ⟨_, rfl, ?_⟩; have n0_ := Aside0.mk (Kd.R_below (by (with_reducible repeat (first | apply Kd.R_alloc | apply Kd.R_drewN | apply Kd.R_drew)); exact HO_796000.out) hb); have n1_ := Aside0.mk (blk_below (g := gb794) (o := .cells #[.slice none 0 0, .int .i64 0] 68 (0, 0)) (by (with_reducible repeat (first | refine blk_drewN ?_ _ | refine blk_drew ?_ | refine blk_alloc ?_ _)); exact BK794.out) hb); have n2_ := Aside0.mk (blk_below (g := gb795) (o := .cells #[.slice Ao28 x796000_2.length co28, .int .i64 (wrap64 ((wrap64 (bt a0 (ji7))) - 48))] 68 (0, 0)) (by (with_reducible repeat (first | refine blk_drewN ?_ _ | refine blk_drew ?_ | refine blk_alloc ?_ _)); exact BK795.out) hb); have n3_ := Aside0.mk (below_step (by repeat (first | (with_reducible first | exact HB.out | apply below_alloc | apply pw_below_drewN | apply below_drew1 | refine below_set ?_ GE794.out | refine below_set ?_ GE795.out) | exact HB.out)) hb); clear HO_796000; clear BK794; clear BK795; clear HB; have HO_796000 := n0_; have BK794 := n1_; have BK795 := n2_; have HB := n3_; clear n0_ n1_ n2_ n3_; (try clear hb); (try clear hb2); (try clear hk); (try clear hi); have hcz30_0 : w29.cell? ⟨gb794, 0, none⟩ = some (.slice none 0 0) := (blk_cell BK794.out 0).trans rfl; have hcz30_1 : w29.cell? ⟨gb794, 1, none⟩ = some (.int .i64 0) := (blk_cell BK794.out 1).trans rfl; have hfz30_0 := blk_frozen BK794.out 0; have hfz30_1 := blk_frozen BK794.out 1))
                        refine bodyPost_ret (results_ct rfl _ _ gb794 68 #[.slice none 0 0, .int .i64 0] (0, 0) _ rfl (by (with_reducible repeat (first | refine blk_drewN ?_ _ | refine blk_drew ?_ | refine blk_alloc ?_ _)); refine blk_put (cs := #[.slice none 0 0, .int .i64 0]) ?_ 1 _ rfl; (with_reducible repeat (first | refine blk_drewN ?_ _ | refine blk_drew ?_ | refine blk_alloc ?_ _)); refine blk_put (cs := #[.slice none 0 0, .int .i64 0]) ?_ 0 _ rfl; (with_reducible repeat (first | refine blk_drewN ?_ _ | refine blk_drew ?_ | refine blk_alloc ?_ _)); exact BK794.out) Try.underlying68 rfl (by kernel_rfl)) rfl ?_
                        exact ⟨_, by first | rfl | (simp [errW_none, errW_some] <;> rfl) | (simp only [← hji7]; first | rfl | (simp [errW_none, errW_some] <;> rfl)) | (simp [*, errW_none, errW_some] <;> rfl), by first | exact Kd.R_nil _ _ _ _ _ | exact Kd.N_nil _ _ _ _ _ | exact Kd.V_nil _ _ _ _ _ | exact Kd.Q_nil _ _ _ _ _ | exact Kd.S_nil _ _ _ _ _, by repeat (first | (with_reducible first | exact HB.out | apply below_alloc | apply pw_below_drewN | apply below_drew1 | refine below_set ?_ GE794.out | refine below_set ?_ GE795.out) | exact HB.out)⟩
                    · rw [if_neg c17] at H
                      have c17b0 : ((bt a0 0) == 45) = false := beq_eq_false_iff_ne.mpr c17
                      have c17b1 : ((bt a0 0) != 45) = true := bne_iff_ne.mpr c17
                      by_cases c31 : 0 ≤ x5_2
                      · rw [if_pos c31] at H
                        have c31b0 : decide (0 ≤ x5_2) = true := decide_eq_true c31
                        clear c31
                        by_cases c32 : x5_2 < (a0.size : Int)
                        · rw [if_pos c32] at H
                          have c32b0 : decide (x5_2 < (a0.size : Int)) = true := decide_eq_true c32
                          clear c32
                          by_cases c34 : x796000_2.length < 17592186044416
                          · rw [if_pos c34] at H
                            have LMc34 := Aside0.mk c34
                            clear c34
                            obtain ⟨y797, hy797⟩ : ∃ y_ : List Int, y_ = (x796000_2 ++ [wrap64 ((wrap64 (bt a0 x5_2)) - 48)]) := ⟨_, rfl⟩
                            replace H : (spec_ReadPick.l0 k2 a0 (wrap64 (x5_2 + 1)) y797 (wrap64 ((wrap64 (bt a0 (ji7))) - 48))) = some (r1, r2, r3) := by first | (rw [hy797]; with_reducible exact H) | (have H2_ := (Option.bind_some _ _).symm.trans H; rw [hy797]; with_reducible exact H2_) | (have H2_ := (Option.bind_some _ _).symm.trans H; with_reducible exact H2_) | with_reducible exact H | (rw [hy797]; exact H) | exact H
                            have Ny797 := Aside0.mk hy797
                            clear hy797
                            have H' := Aside0.mk H
                            clear H
                            have p16 : 0 ≤ (0 : Int) := (by omega)
                            have q16 : 0 < a0.size := (by have : (0 : Int) < (a0.size : Int) := of_decide_eq_true (by first | (with_reducible assumption) | assumption); omega)
                            have hx16 : ∀ h : 0 < a0.size, ((a0[0]'h).toNat : Int) = bt a0 0 := bt_at a0 0
                            clear p16
                            have qi16 : (0 < (a0.size : Int)) = True := eq_true (of_decide_eq_true (by first | (with_reducible assumption) | assumption))
                            replace q16 := eq_true q16
                            try go_wp2
                            have n0_ := Aside0.mk (Kd.R_drew HO_796000.out)
                            have n1_ := Aside0.mk (blk_drew BK794.out)
                            have n2_ := Aside0.mk (blk_drew BK795.out)
                            have n3_ := Aside0.mk (below_drew1 HB.out)
                            clear HO_796000
                            clear BK794
                            clear BK795
                            clear HB
                            have HO_796000 := n0_
                            have BK794 := n1_
                            have BK795 := n2_
                            have HB := n3_
                            clear n0_ n1_ n2_ n3_
                            have p33 : 0 ≤ (x5_2 : Int) := of_decide_eq_true (by first | (with_reducible assumption) | assumption)
                            have q33 : x5_2 < (a0.size : Int) := of_decide_eq_true (by first | (with_reducible assumption) | assumption)
                            have hx33 := bt_at a0 x5_2
                            replace p33 := eq_true p33
                            replace q33 := eq_true q33
                            refine start_ (n := 11) (S := fun w' => w'.cell? ⟨gb795, 0, none⟩ = some (u796000) ∧ w'.cell? ⟨gb795, 1, none⟩ = some (.int .i64 (wrap64 ((wrap64 (bt a0 (ji7))) - 48)))) (ds := [10]) #[false, false, false, false, false, false, false, false, false, false, false] (by kernel_rfl) rfl rfl ⟨(blk_cell BK795.out 0).trans rfl, (blk_cell BK795.out 1).trans rfl⟩ (fun hHeld => ?_); refine with_tabW spec_ReadPick.tab7 spec_ReadPick.bits7 (fun HT_ HW_ => ?_)
                            generalize wr.drew = w35 at HO_796000 BK794 BK795 HB hHeld ⊢
                            refine pure_ (i := 0) (N := some 35) (v := ?_) (a' := ?_) #[true, false, false, false, false, false, false, false, false, false, false] rfl rfl (any_of HT_.out (by kernel_rfl)) (fun _ _ _ h => h) (Or.inl ⟨by rfl, ?_⟩) ?_ ?_
                            rotate_left
                            · intro w'
                              go_simp
                              with_reducible rfl
                            rotate_left
                            · simp only [Act.put, List.setIfInBounds_toArray, List.set_cons_zero, List.set_cons_succ, i64_w, i32_w]
                              rfl
                            refine pure_ (i := 2) (N := some 37) (v := ?_) (a' := ?_) #[true, false, true, false, false, false, false, false, false, false, false] rfl rfl (any_of HT_.out (by kernel_rfl)) (fun _ _ _ h => h) (Or.inl ⟨by rfl, ?_⟩) ?_ ?_
                            rotate_left
                            · intro w'
                              go_simp
                              with_reducible rfl
                            rotate_left
                            · simp only [Act.put, List.setIfInBounds_toArray, List.set_cons_zero, List.set_cons_succ, i64_w, i32_w]
                              rfl
                            refine pure_ (i := 3) (N := some 38) (v := ?_) (a' := ?_) #[true, false, true, true, false, false, false, false, false, false, false] rfl rfl (any_of HT_.out (by kernel_rfl)) (fun _ _ _ h => h) (Or.inl ⟨by rfl, ?_⟩) ?_ ?_
                            rotate_left
                            · intro w'
                              go_simp
                              with_reducible rfl
                            rotate_left
                            · simp only [Act.put, List.setIfInBounds_toArray, List.set_cons_zero, List.set_cons_succ, i64_w, i32_w]
                              rfl
                            refine take_ (i := 1) (N := some 36) (v := ?_) (a' := ?_) #[true, true, true, true, false, false, false, false, false, false, false] rfl rfl (take_ofW HT_.out HW_.out (by kernel_rfl)) (fun _ _ _ h => h) (Or.inl ⟨by rfl, ?_⟩) hHeld ?_ ?_
                            rotate_left
                            · rintro w' ⟨s0, s1⟩
                              go_simp
                              with_reducible rfl
                            rotate_left
                            · simp only [Act.put, List.setIfInBounds_toArray, List.set_cons_zero, List.set_cons_succ, i64_w, i32_w]
                              rfl
                            refine take_ (i := 4) (N := some 39) (v := ?_) (a' := ?_) #[true, true, true, true, true, false, false, false, false, false, false] rfl rfl (take_ofW HT_.out HW_.out (by kernel_rfl)) (fun _ _ _ h => h) (Or.inl ⟨by rfl, ?_⟩) hHeld ?_ ?_
                            rotate_left
                            · rintro w' ⟨s0, s1⟩
                              go_simp
                              with_reducible rfl
                            rotate_left
                            · simp only [Act.put, List.setIfInBounds_toArray, List.set_cons_zero, List.set_cons_succ, i64_w, i32_w]
                              rfl
                            refine pure_ (i := 5) (N := some 40) (v := ?_) (a' := ?_) #[true, true, true, true, true, true, false, false, false, false, false] rfl rfl (any_of HT_.out (by kernel_rfl)) (fun _ _ _ h => h) (Or.inl ⟨by rfl, ?_⟩) ?_ ?_
                            rotate_left
                            · intro w'
                              go_simp
                              with_reducible rfl
                            rotate_left
                            · simp only [Act.put, List.setIfInBounds_toArray, List.set_cons_zero, List.set_cons_succ, i64_w, i32_w]
                              rfl
                            refine pure_ (i := 6) (N := some 41) (v := ?_) (a' := ?_) #[true, true, true, true, true, true, true, false, false, false, false] rfl rfl (any_of HT_.out (by kernel_rfl)) (fun _ _ _ h => h) (Or.inl ⟨by rfl, ?_⟩) ?_ ?_
                            rotate_left
                            · intro w'
                              go_simp
                              with_reducible rfl
                            rotate_left
                            · simp only [Act.put, List.setIfInBounds_toArray, List.set_cons_zero, List.set_cons_succ, i64_w, i32_w]
                              rfl
                            refine one_ (i := 7) (N := some 42) #[true, true, true, true, true, true, true, true, false, false, false] rfl rfl (one_of HT_.out (by kernel_rfl)) (by decide) (fun K hK => ?_)
                            refine value_ (w1 := ?_) (v := ?_) (by rfl) rfl ?_ ?_
                            rotate_left 2
                            · go_simp
                              constructor
                              · rfl
                              · rfl
                            refine hK.out _ _ ⟨(blk_cell (blk_alloc BK795.out _) 0).trans rfl, (blk_cell (blk_alloc BK795.out _) 1).trans rfl⟩ (fun hHeld => ?_)
                            clear hK K
                            refine norm_ (a' := ?_) ?_ ?_
                            rotate_left
                            · show Act.put _ (some 42) _ = _
                              simp only [Act.put, List.setIfInBounds_toArray, List.set_cons_zero, List.set_cons_succ, i64_w, i32_w]
                              rfl
                            refine one_ (i := 8) (N := some 43) #[true, true, true, true, true, true, true, true, true, false, false] rfl rfl (one_of HT_.out (by kernel_rfl)) (by decide) (fun K hK => ?_)
                            refine Kd.R_append_step (Kd.int .i64) (w0 := w) w.heap.size (by rfl) (.tmp 36) (.tmp 42) 40 3 (.int .i64 0) 8 rfl Try.underlying40 info3 rfl (by decide) (by omega) u796000 x796000_2 (wrap64 ((wrap64 (bt a0 x5_2)) - 48)) [.int .i64 (wrap64 ((wrap64 (bt a0 x5_2)) - 48))] (fun _ => True) (fun _ => False) rfl rfl ?aP (fun _ hk => hk.elim) ?aF ?aO ?aB ?aS ?aL ?_
                            (case aP => exact rfl)
                            (case aB => exact (by repeat (first | (with_reducible first | exact HB.out | apply below_alloc | apply pw_below_drewN | apply below_drew1 | refine below_set ?_ GE794.out | refine below_set ?_ GE795.out) | exact HB.out)))
                            (case aF => exact (fun _ _ => trivial))
                            (case aO => exact (by (with_reducible repeat (first | apply Kd.R_alloc | apply Kd.R_drewN | apply Kd.R_drew)); exact HO_796000.out))
                            (case aS => exact (below_size (by repeat (first | (with_reducible first | exact HB.out | apply below_alloc | apply pw_below_drewN | apply below_drew1 | refine below_set ?_ GE794.out | refine below_set ?_ GE795.out) | exact HB.out))))
                            (case aL => have := LMc34.out; omega)
                            intro v798 w36 ho hb hg hat
                            rw [← Ny797.out] at ho
                            have n0_ := Aside0.mk (blk_grown (g := gb794) (o := .cells #[.slice none 0 0, .int .i64 0] 68 (0, 0)) (by (with_reducible repeat (first | refine blk_drewN ?_ _ | refine blk_drew ?_ | refine blk_alloc ?_ _)); exact BK794.out) hg (Kd.R_ne HO_796000.out BK794.out (by decide)))
                            have n1_ := Aside0.mk (blk_grown (g := gb795) (o := .cells #[u796000, .int .i64 (wrap64 ((wrap64 (bt a0 (ji7))) - 48))] 68 (0, 0)) (by (with_reducible repeat (first | refine blk_drewN ?_ _ | refine blk_drew ?_ | refine blk_alloc ?_ _)); exact BK795.out) hg (Kd.R_ne HO_796000.out BK795.out (by decide)))
                            have n2_ := Aside0.mk (hb)
                            have n3_ := Aside0.mk (ho)
                            clear BK794
                            clear BK795
                            clear HB
                            clear HO_796000
                            have BK794 := n0_
                            have BK795 := n1_
                            have HB := n2_
                            have HO799 := n3_
                            clear n0_ n1_ n2_ n3_
                            clear ho hb hg hat
                            obtain ⟨Ao37, co37, eo37⟩ := Kd.R_slice HO799.out
                            (first | subst eo37 | (injection eo37 with f1_ f2_ f3_; have f4_ := f1_.symm; have f5_ := f3_.symm; clear f1_ f2_ f3_; subst f4_; subst f5_))
                            refine hK.out _ _ ⟨(blk_cell BK795.out 0).trans rfl, (blk_cell BK795.out 1).trans rfl⟩ (fun hHeld => ?_)
                            clear hK K
                            refine norm_ (a' := ?_) ?_ ?_
                            rotate_left
                            · show Act.put _ (some 43) _ = _
                              simp only [Act.put, List.setIfInBounds_toArray, List.set_cons_zero, List.set_cons_succ, i64_w, i32_w]
                              rfl
                            refine pure_ (i := 9) (N := some 44) (v := ?_) (a' := ?_) #[true, true, true, true, true, true, true, true, true, true, false] rfl rfl (any_of HT_.out (by kernel_rfl)) (fun _ _ _ h => h) (Or.inl ⟨by rfl, ?_⟩) ?_ ?_
                            rotate_left
                            · intro w'
                              go_simp
                              with_reducible rfl
                            rotate_left
                            · simp only [Act.put, List.setIfInBounds_toArray, List.set_cons_zero, List.set_cons_succ, i64_w, i32_w]
                              rfl
                            refine last_ (i := 10) (N := none) #[true, true, true, true, true, true, true, true, true, true, true] rfl rfl (one_of HT_.out (by kernel_rfl)) (by decide) (fun K hK => ?_)
                            have hs38 : w36.cell? ⟨gb795, 0, none⟩ = some (u796000) := (blk_cell BK795.out 0).trans rfl
                            have hfs38 := blk_frozen BK795.out 0
                            have hns38_0 := NB794_795.out
                            have hms38_0 := NB795_794.out
                            refine skip_ (w1 := ?_) (by rfl) rfl ?_ ?_
                            rotate_left
                            · go_simp
                              rfl
                            refine hK.out _ _ ?_
                            clear hK K
                            refine done_ (done_of HT_.out (by kernel_rfl)) ?_
                            try go_wp2
                            go_roundg k2
                            case measure => have := HJ1.out; have := HK2.out; omega
                            case rel => exact ⟨(wrap64 (x5_2 + 1)), (y797), (.slice Ao37 y797.length co37), (by first | rfl | (simp; done) | (simp [*]; done)), H', ⟨by have := HJ1.out; have := HK2.out; omega⟩, ⟨by (with_reducible repeat (first | apply Kd.R_alloc | apply Kd.R_drewN | apply Kd.R_drew)); exact Kd.R_mono (Kd.R_far (p := ⟨gb795, 0, none⟩) (Kd.R_types HO799.out BK795.out (by decide)) (fun _ hk => hk.2) (.slice Ao37 y797.length co37)) (fun _ hk => trivial)⟩, ⟨by (with_reducible repeat (first | refine blk_drewN ?_ _ | refine blk_drew ?_ | refine blk_alloc ?_ _)); refine blk_far ?_ NB794_795.out _; (with_reducible repeat (first | refine blk_drewN ?_ _ | refine blk_drew ?_ | refine blk_alloc ?_ _)); exact BK794.out⟩, ⟨by (with_reducible repeat (first | refine blk_drewN ?_ _ | refine blk_drew ?_ | refine blk_alloc ?_ _)); refine blk_put (cs := #[u796000, .int .i64 (wrap64 ((wrap64 (bt a0 (ji7))) - 48))]) ?_ 0 _ rfl; (with_reducible repeat (first | refine blk_drewN ?_ _ | refine blk_drew ?_ | refine blk_alloc ?_ _)); exact BK795.out⟩, ⟨by repeat (first | (with_reducible first | exact HB.out | apply below_alloc | apply pw_below_drewN | apply below_drew1 | refine below_set ?_ GE794.out | refine below_set ?_ GE795.out) | exact HB.out)⟩⟩
                          · rw [if_neg c34] at H
                            exact absurd H (by simp)
                        · rw [if_neg c32] at H
                          exact absurd H (by simp)
                      · rw [if_neg c31] at H
                        exact absurd H (by simp)
                  · rw [if_neg c15] at H
                    exact absurd H (by simp)
                · rw [if_neg c14] at H
                  have c14b0 : decide (x5_2 < (wrap64 ((a0.size : Int) - 2))) = false := decide_eq_false c14
                  clear c14
                  replace H := Option.bind_eq_some_iff.mp H
                  obtain ⟨t800, A390, H⟩ := H
                  replace H : (if t800.toList = a0.toList then (some (x796000_2, (wrap64 ((wrap64 (bt a0 (ji7))) - 48)), true)) else (some (([] : List Int), 0, false))) = some (r1, r2, r3) := H
                  have A39 := Aside0.mk A390
                  clear A390
                  by_cases c40 : t800.toList = a0.toList
                  · rw [if_pos c40] at H
                    have c40b0 : (t800.toList == a0.toList) = true := beq_iff_eq.mpr c40
                    have c40b1 : (t800.toList != a0.toList) = false := bne_eq_false_iff_eq.mpr c40
                    clear c40
                    simp only [Option.some.injEq, Prod.mk.injEq] at H
                    obtain ⟨rfl, rfl, rfl⟩ := H
                    have hnb41 := NB795_794.out
                    have hnc41 := NB794_795.out
                    have hcz42_0 : wr.cell? ⟨gb795, 0, none⟩ = some (u796000) := (blk_cell BK795.out 0).trans rfl
                    have hcz42_1 : wr.cell? ⟨gb795, 1, none⟩ = some (.int .i64 (wrap64 ((wrap64 (bt a0 (ji7))) - 48))) := (blk_cell BK795.out 1).trans rfl
                    have hfz42_0 := blk_frozen BK795.out 0
                    have hfz42_1 := blk_frozen BK795.out 1
                    obtain ⟨Ao43, co43, eo43⟩ := Kd.R_slice HO_796000.out
                    subst eo43
                    go_wp2_with (first | ((with_reducible refine gate_callee (f := 49) rfl ?_); refine goesL_ (some 46) rfl rfl Try.func49 (by kernel_rfl) rfl #[.agg #[.slice Ao43 x796000_2.length co43, .int .i64 (wrap64 ((wrap64 (bt a0 (ji7))) - 48))]] rfl (by (try simp only [List.map_toArray, List.map_cons, List.map_nil]); first | done | (simp only [hji7]; rfl) | rfl | (simp only [List.length_drop, List.length_take]; rfl)) ?_; (with_reducible refine (spec_PickText.calls k2 _ _ x796000_2 (wrap64 ((wrap64 (bt a0 (ji7))) - 48)) t800 _ ?side1 ?side2 A39.out).mono ?_); (case side1 => repeat (first | exact (Kd.R_reads' HO_796000.out).2.2 | (with_reducible refine Kd.C_alloc ?_ _) | (with_reducible refine Kd.C_drewN ?_ _) | (with_reducible refine Kd.C_drew ?_))); (case side2 => exact (Kd.R_reads' HO_796000.out).2.1); rintro e w44 ⟨rfl, hb⟩; refine ⟨_, rfl, ?_⟩; have n0_ := Aside0.mk (Kd.R_below (by (with_reducible repeat (first | apply Kd.R_alloc | apply Kd.R_drewN | apply Kd.R_drew)); exact HO_796000.out) hb); have n1_ := Aside0.mk (blk_below (g := gb794) (o := .cells #[.slice none 0 0, .int .i64 0] 68 (0, 0)) (by (with_reducible repeat (first | refine blk_drewN ?_ _ | refine blk_drew ?_ | refine blk_alloc ?_ _)); exact BK794.out) hb); have n2_ := Aside0.mk (blk_below (g := gb795) (o := .cells #[.slice Ao43 x796000_2.length co43, .int .i64 (wrap64 ((wrap64 (bt a0 (ji7))) - 48))] 68 (0, 0)) (by (with_reducible repeat (first | refine blk_drewN ?_ _ | refine blk_drew ?_ | refine blk_alloc ?_ _)); exact BK795.out) hb); have n3_ := Aside0.mk (below_step (by repeat (first | (with_reducible first | exact HB.out | apply below_alloc | apply pw_below_drewN | apply below_drew1 | refine below_set ?_ GE794.out | refine below_set ?_ GE795.out) | exact HB.out)) hb); clear HO_796000; clear BK794; clear BK795; clear HB; have HO_796000 := n0_; have BK794 := n1_; have BK795 := n2_; have HB := n3_; clear n0_ n1_ n2_ n3_; (try clear hb); (try clear hb2); (try clear hk); (try clear hi); have hcz45_0 : w44.cell? ⟨gb795, 0, none⟩ = some (.slice Ao43 x796000_2.length co43) := (blk_cell BK795.out 0).trans rfl; have hcz45_1 : w44.cell? ⟨gb795, 1, none⟩ = some (.int .i64 (wrap64 ((wrap64 (bt a0 (ji7))) - 48))) := (blk_cell BK795.out 1).trans rfl; have hfz45_0 := blk_frozen BK795.out 0; have hfz45_1 := blk_frozen BK795.out 1; have hcz46_0 : w44.cell? ⟨gb794, 0, none⟩ = some (.slice none 0 0) := (blk_cell BK794.out 0).trans rfl; have hcz46_1 : w44.cell? ⟨gb794, 1, none⟩ = some (.int .i64 0) := (blk_cell BK794.out 1).trans rfl; have hfz46_0 := blk_frozen BK794.out 0; have hfz46_1 := blk_frozen BK794.out 1))
                    refine bodyPost_ret (results_ct rfl _ _ gb794 68 #[.slice Ao43 x796000_2.length co43, .int .i64 (wrap64 ((wrap64 (bt a0 (ji7))) - 48))] (0, 0) _ rfl (by (with_reducible repeat (first | refine blk_drewN ?_ _ | refine blk_drew ?_ | refine blk_alloc ?_ _)); refine blk_put (cs := #[.slice Ao43 x796000_2.length co43, .int .i64 0]) ?_ 1 _ rfl; (with_reducible repeat (first | refine blk_drewN ?_ _ | refine blk_drew ?_ | refine blk_alloc ?_ _)); refine blk_put (cs := #[.slice none 0 0, .int .i64 0]) ?_ 0 _ rfl; (with_reducible repeat (first | refine blk_drewN ?_ _ | refine blk_drew ?_ | refine blk_alloc ?_ _)); exact BK794.out) Try.underlying68 rfl (by kernel_rfl)) rfl ?_
                    exact ⟨_, by first | rfl | (simp [errW_none, errW_some] <;> rfl) | (simp only [← hji7]; first | rfl | (simp [errW_none, errW_some] <;> rfl)) | (simp [*, errW_none, errW_some] <;> rfl), by (with_reducible repeat (first | apply Kd.R_alloc | apply Kd.R_drewN | apply Kd.R_drew)); exact Kd.R_mono (Kd.R_far (p := ⟨gb794, 1, none⟩) (Kd.R_far (p := ⟨gb794, 0, none⟩) (Kd.R_types HO_796000.out BK794.out (by decide)) (fun _ hk => hk.2) (.slice Ao43 x796000_2.length co43)) (fun _ hk => hk.2) (.int .i64 (wrap64 ((wrap64 (bt a0 (ji7))) - 48)))) (fun _ hk => trivial), by repeat (first | (with_reducible first | exact HB.out | apply below_alloc | apply pw_below_drewN | apply below_drew1 | refine below_set ?_ GE794.out | refine below_set ?_ GE795.out) | exact HB.out)⟩
                  · rw [if_neg c40] at H
                    have c40b0 : (t800.toList == a0.toList) = false := beq_eq_false_iff_ne.mpr c40
                    have c40b1 : (t800.toList != a0.toList) = true := bne_iff_ne.mpr c40
                    simp only [Option.some.injEq, Prod.mk.injEq] at H
                    obtain ⟨rfl, rfl, rfl⟩ := H
                    have hnb47 := NB795_794.out
                    have hnc47 := NB794_795.out
                    have hcz48_0 : wr.cell? ⟨gb795, 0, none⟩ = some (u796000) := (blk_cell BK795.out 0).trans rfl
                    have hcz48_1 : wr.cell? ⟨gb795, 1, none⟩ = some (.int .i64 (wrap64 ((wrap64 (bt a0 (ji7))) - 48))) := (blk_cell BK795.out 1).trans rfl
                    have hfz48_0 := blk_frozen BK795.out 0
                    have hfz48_1 := blk_frozen BK795.out 1
                    obtain ⟨Ao49, co49, eo49⟩ := Kd.R_slice HO_796000.out
                    subst eo49
                    go_wp2_with (first | ((with_reducible refine gate_callee (f := 49) rfl ?_); refine goesL_ (some 46) rfl rfl Try.func49 (by kernel_rfl) rfl #[.agg #[.slice Ao49 x796000_2.length co49, .int .i64 (wrap64 ((wrap64 (bt a0 (ji7))) - 48))]] rfl (by (try simp only [List.map_toArray, List.map_cons, List.map_nil]); first | done | (simp only [hji7]; rfl) | rfl | (simp only [List.length_drop, List.length_take]; rfl)) ?_; (with_reducible refine (spec_PickText.calls k2 _ _ x796000_2 (wrap64 ((wrap64 (bt a0 (ji7))) - 48)) t800 _ ?side1 ?side2 A39.out).mono ?_); (case side1 => repeat (first | exact (Kd.R_reads' HO_796000.out).2.2 | (with_reducible refine Kd.C_alloc ?_ _) | (with_reducible refine Kd.C_drewN ?_ _) | (with_reducible refine Kd.C_drew ?_))); (case side2 => exact (Kd.R_reads' HO_796000.out).2.1); rintro e w50 ⟨rfl, hb⟩; refine ⟨_, rfl, ?_⟩; have n0_ := Aside0.mk (Kd.R_below (by (with_reducible repeat (first | apply Kd.R_alloc | apply Kd.R_drewN | apply Kd.R_drew)); exact HO_796000.out) hb); have n1_ := Aside0.mk (blk_below (g := gb794) (o := .cells #[.slice none 0 0, .int .i64 0] 68 (0, 0)) (by (with_reducible repeat (first | refine blk_drewN ?_ _ | refine blk_drew ?_ | refine blk_alloc ?_ _)); exact BK794.out) hb); have n2_ := Aside0.mk (blk_below (g := gb795) (o := .cells #[.slice Ao49 x796000_2.length co49, .int .i64 (wrap64 ((wrap64 (bt a0 (ji7))) - 48))] 68 (0, 0)) (by (with_reducible repeat (first | refine blk_drewN ?_ _ | refine blk_drew ?_ | refine blk_alloc ?_ _)); exact BK795.out) hb); have n3_ := Aside0.mk (below_step (by repeat (first | (with_reducible first | exact HB.out | apply below_alloc | apply pw_below_drewN | apply below_drew1 | refine below_set ?_ GE794.out | refine below_set ?_ GE795.out) | exact HB.out)) hb); clear HO_796000; clear BK794; clear BK795; clear HB; have HO_796000 := n0_; have BK794 := n1_; have BK795 := n2_; have HB := n3_; clear n0_ n1_ n2_ n3_; (try clear hb); (try clear hb2); (try clear hk); (try clear hi); have hcz51_0 : w50.cell? ⟨gb794, 0, none⟩ = some (.slice none 0 0) := (blk_cell BK794.out 0).trans rfl; have hcz51_1 : w50.cell? ⟨gb794, 1, none⟩ = some (.int .i64 0) := (blk_cell BK794.out 1).trans rfl; have hfz51_0 := blk_frozen BK794.out 0; have hfz51_1 := blk_frozen BK794.out 1))
                    refine bodyPost_ret (results_ct rfl _ _ gb794 68 #[.slice none 0 0, .int .i64 0] (0, 0) _ rfl (by (with_reducible repeat (first | refine blk_drewN ?_ _ | refine blk_drew ?_ | refine blk_alloc ?_ _)); refine blk_put (cs := #[.slice none 0 0, .int .i64 0]) ?_ 1 _ rfl; (with_reducible repeat (first | refine blk_drewN ?_ _ | refine blk_drew ?_ | refine blk_alloc ?_ _)); refine blk_put (cs := #[.slice none 0 0, .int .i64 0]) ?_ 0 _ rfl; (with_reducible repeat (first | refine blk_drewN ?_ _ | refine blk_drew ?_ | refine blk_alloc ?_ _)); exact BK794.out) Try.underlying68 rfl (by kernel_rfl)) rfl ?_
                    exact ⟨_, by first | rfl | (simp [errW_none, errW_some] <;> rfl) | (simp only [← hji7]; first | rfl | (simp [errW_none, errW_some] <;> rfl)) | (simp [*, errW_none, errW_some] <;> rfl), by first | exact Kd.R_nil _ _ _ _ _ | exact Kd.N_nil _ _ _ _ _ | exact Kd.V_nil _ _ _ _ _ | exact Kd.Q_nil _ _ _ _ _ | exact Kd.S_nil _ _ _ _ _, by repeat (first | (with_reducible first | exact HB.out | apply below_alloc | apply pw_below_drewN | apply below_drew1 | refine below_set ?_ GE794.out | refine below_set ?_ GE795.out) | exact HB.out)⟩
          · rw [if_neg c9] at H
            exact absurd H (by simp)
        · rw [if_neg c8] at H
          exact absurd H (by simp)

end Go.Proofs.Yteagogcpbcickaa.G
