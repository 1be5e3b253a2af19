-- texts of this session, merged by a program of it (wip/gen/pack.py)
import Derived.Test.YteagogcpbcickaaKFnExactGraphTable1
import Derived.Test.YteagogcpbcickaaKFnExactGraphTable2
import Derived.Test.YteagogcpbcickaaKFnExactGraphTable3
import Derived.Test.YteagogcpbcickaaKFnExactGraphTable4
import Derived.Laws.BitsLemmas
import Derived.ProofKit
import Derived.WalkKit
import Derived.Deep.Slices
import Derived.OpenShut
import Derived.ChangeVars
import Derived.ChangeOld
import Derived.Below
import Derived.Test.YteagogcpbcickaaWWords
import Derived.Test.YteagogcpbcickaaRows
import Derived.ShutString
-- written by a program of this session (wip/gen/gen.py); Lean checks it
namespace Go.Proofs.Yteagogcpbcickaa.G
open Go.RowKit Go.Proofs.YteagogcpbcickaaW.PrintWords Go.Proofs.YteagogcpbcickaaW.PrintLast Go.Proofs.YteagogcpbcickaaW.PrintMore
attribute [local go_sem] max2_int min2_int max_two min_two max_three min_three max_four min_four   -- for this text's walks alone
set_option linter.unusedVariables false
set_option linter.unusedSimpArgs false

/-! ### laws_FnExactGraphTable: function 5 -/
def laws_FnExactGraphTable.j0 : Nat → Bool → Int → List (S116) → Int → List (S79) → Option (Bool)
  | 0, _, _, _, _, _ => none
  | k + 1, x39, x102000, x102001, x116000, x116001 => if x39 = true then (some false) else ((laws_toGraph.f k x102000 x102001).bind fun bt121 => ((laws_eqGraph.f k x116000 x116001 bt121.1 bt121.2).bind fun t125 => (if t125 = true then (some true) else (some false))))
def laws_FnExactGraphTable.f (k : Nat) (a0_0 : Int) (l0_1 : List (S116)) (a1 : Int) : Option (Bool) := (laws_szGraph.f a0_0 l0_1 1048576).bind fun t102 => (if t102 < 0 then (some true) else ((laws_toGraph.f k a0_0 l0_1).bind fun bt103 => ((spec_GraphTable.f k bt103.1 bt103.2 a1).bind fun bt107 => ((laws_toGraph.f k a0_0 l0_1).bind fun bt111 => ((impl_GraphTable.f k bt111.1 bt111.2 a1).bind fun bt116 => ((laws_eqTable.f bt116.1 bt116.2.1 bt107.1 bt107.2.1).bind fun t120 => (if t120 = true then (laws_FnExactGraphTable.j0 k (bt116.2.2 != bt107.2.2) a0_0 l0_1 bt111.1 bt111.2) else (laws_FnExactGraphTable.j0 k true a0_0 l0_1 bt111.1 bt111.2))))))))
set_option maxHeartbeats 8000000 in
set_option maxRecDepth 100000 in
theorem laws_FnExactGraphTable.calls (k : Nat) (a0_0 : Int) (A0_1 : Option Addr) (c0_1 : Nat) (l0_1 : List (S116)) (a1 : Int) (r : Bool) (w : World) (hr0_1 : Kd.C k116 w A0_1 l0_1.length l0_1) (hc0_1 : l0_1.length ≤ c0_1) (ht_ : r = true) (h : laws_FnExactGraphTable.f k a0_0 l0_1 a1 = some r) :
    Calls Try.prog 5 #[.agg #[.int .i64 a0_0, .slice A0_1 l0_1.length c0_1], .int .i64 a1] w fun e w' => e = .returned (.bool r) ∧ Below w.heap.size w w' := by
  have hu24 := Try.underlying24
  have hu36 := Try.underlying36
  have hu29 := Try.underlying29
  have HT := Aside0.mk ht_
  clear ht_
  have HR0_1 := Aside0.mk hr0_1
  have HC0_1 := Aside0.mk hc0_1
  clear hr0_1 hc0_1
  have HB := Aside0.mk (Below.refl w.heap.size w)
  have H : ((laws_szGraph.f a0_0 l0_1 1048576).bind fun t102 => (if t102 < 0 then (some true) else ((laws_toGraph.f k a0_0 l0_1).bind fun bt103 => ((spec_GraphTable.f k bt103.1 bt103.2 a1).bind fun bt107 => ((laws_toGraph.f k a0_0 l0_1).bind fun bt111 => ((impl_GraphTable.f k bt111.1 bt111.2 a1).bind fun bt116 => ((laws_eqTable.f bt116.1 bt116.2.1 bt107.1 bt107.2.1).bind fun t120 => (if t120 = true then (laws_FnExactGraphTable.j0 k (bt116.2.2 != bt107.2.2) a0_0 l0_1 bt111.1 bt111.2) else (laws_FnExactGraphTable.j0 k true a0_0 l0_1 bt111.1 bt111.2))))))))) = some r := h
  clear h
  replace H := Option.bind_eq_some_iff.mp H
  obtain ⟨t102, A30, H⟩ := H
  replace H : (if t102 < 0 then (some true) else ((laws_toGraph.f k a0_0 l0_1).bind fun bt103 => ((spec_GraphTable.f k bt103.1 bt103.2 a1).bind fun bt107 => ((laws_toGraph.f k a0_0 l0_1).bind fun bt111 => ((impl_GraphTable.f k bt111.1 bt111.2 a1).bind fun bt116 => ((laws_eqTable.f bt116.1 bt116.2.1 bt107.1 bt107.2.1).bind fun t120 => (if t120 = true then (laws_FnExactGraphTable.j0 k (bt116.2.2 != bt107.2.2) a0_0 l0_1 bt111.1 bt111.2) else (laws_FnExactGraphTable.j0 k true a0_0 l0_1 bt111.1 bt111.2)))))))) = some r := H
  have A3 := Aside0.mk A30
  clear A30
  by_cases c4 : t102 < 0
  · rw [if_pos c4] at H
    have c4b0 : decide (t102 < 0) = true := decide_eq_true c4
    clear c4
    obtain rfl := Option.some.inj H
    go_enter Try.func5, Try.ntmps5
    go_wp2_with (first | ((with_reducible refine gate_dst (N := 2) rfl ?_); refine box_event ?hg (N := 2) ?hd (cs := #[.int .i64 a0_0, .slice A0_1 l0_1.length c0_1]) (t := 24) ?hr ?_; (case hd => rfl); (case hg => rfl); (case hr => first | (go_simp; done) | (go_simp; rfl)); intro gb101 hg w5 hbox hb; have n0_ := Aside0.mk (below_step (by repeat (first | (with_reducible first | exact HB.out | apply below_alloc | apply pw_below_drewN | apply below_drew1) | exact HB.out)) hb); have n1_ := Aside0.mk (hbox); have n2_ := Aside0.mk ((by rw [hg]; exact (below_size (by repeat (first | (with_reducible first | exact HB.out | apply below_alloc | apply pw_below_drewN | apply below_drew1) | exact HB.out))) : w.heap.size ≤ gb101)); have n3_ := Aside0.mk ((by rw [hg]; exact (below_size (by repeat (first | (with_reducible first | exact HB.out | apply below_alloc | apply pw_below_drewN | apply below_drew1) | exact HB.out))) : w.heap.size ≤ gb101)); clear HB; have HB := n0_; have BK101 := n1_; have GW101 := n2_; have GE101 := n3_; clear n0_ n1_ n2_ n3_; clear hb hbox hg; have hcz6_0 : w5.cell? ⟨gb101, 0, none⟩ = some (.int .i64 a0_0) := (blk_cell BK101.out 0).trans rfl; have hcz6_1 : w5.cell? ⟨gb101, 1, none⟩ = some (.slice A0_1 l0_1.length c0_1) := (blk_cell BK101.out 1).trans rfl; have hfz6_0 := blk_frozen BK101.out 0; have hfz6_1 := blk_frozen BK101.out 1) | ((with_reducible refine gate_callee (f := 15) rfl ?_); refine goesL_ (some 13) rfl rfl Try.func15 (by kernel_rfl) rfl #[.agg #[.int .i64 a0_0, .slice A0_1 l0_1.length c0_1], .int .i64 1048576] rfl (by (try simp only [List.map_toArray, List.map_cons, List.map_nil]); first | done | rfl | (simp only [List.length_drop, List.length_take]; rfl)) ?_; (with_reducible refine (laws_szGraph.calls a0_0 _ _ l0_1 1048576 t102 _ ?side1 ?side2 A3.out).mono ?_); (case side1 => repeat (first | exact (Kd.C_below HR0_1.out HB.out) | (with_reducible refine Kd.C_alloc ?_ _) | (with_reducible refine Kd.C_drewN ?_ _) | (with_reducible refine Kd.C_drew ?_))); (case side2 => exact HC0_1.out); rintro e w7 ⟨rfl, hb⟩; refine ⟨_, rfl, ?_⟩; have n0_ := Aside0.mk (blk_below (g := gb101) (o := .cells #[.int .i64 a0_0, .slice A0_1 l0_1.length c0_1] 24 (0, 0)) (by (with_reducible repeat (first | refine blk_drewN ?_ _ | refine blk_drew ?_ | refine blk_alloc ?_ _)); exact BK101.out) hb); have n1_ := Aside0.mk (below_step (by repeat (first | (with_reducible first | exact HB.out | apply below_alloc | apply pw_below_drewN | apply below_drew1 | refine below_set ?_ GE101.out) | exact HB.out)) hb); clear BK101; clear HB; have BK101 := n0_; have HB := n1_; clear n0_ n1_; (try clear hb); (try clear hb2); (try clear hk); (try clear hi)))
    go_ret
    exact ⟨by first | rfl | (simp [errW_none, errW_some] <;> rfl) | (simp [*, errW_none, errW_some] <;> rfl), by repeat (first | (with_reducible first | exact HB.out | apply below_alloc | apply pw_below_drewN | apply below_drew1 | refine below_set ?_ GE101.out) | exact HB.out)⟩
  · rw [if_neg c4] at H
    have c4b0 : decide (t102 < 0) = false := decide_eq_false c4
    clear c4
    replace H := Option.bind_eq_some_iff.mp H
    obtain ⟨⟨t103, t104⟩, A80, H⟩ := H
    replace H : ((spec_GraphTable.f k t103 t104 a1).bind fun bt107 => ((laws_toGraph.f k a0_0 l0_1).bind fun bt111 => ((impl_GraphTable.f k bt111.1 bt111.2 a1).bind fun bt116 => ((laws_eqTable.f bt116.1 bt116.2.1 bt107.1 bt107.2.1).bind fun t120 => (if t120 = true then (laws_FnExactGraphTable.j0 k (bt116.2.2 != bt107.2.2) a0_0 l0_1 bt111.1 bt111.2) else (laws_FnExactGraphTable.j0 k true a0_0 l0_1 bt111.1 bt111.2)))))) = some r := H
    have A8 := Aside0.mk A80
    clear A80
    replace H := Option.bind_eq_some_iff.mp H
    obtain ⟨⟨t107, t108, t109⟩, A90, H⟩ := H
    replace H : ((laws_toGraph.f k a0_0 l0_1).bind fun bt111 => ((impl_GraphTable.f k bt111.1 bt111.2 a1).bind fun bt116 => ((laws_eqTable.f bt116.1 bt116.2.1 t107 t108).bind fun t120 => (if t120 = true then (laws_FnExactGraphTable.j0 k (bt116.2.2 != t109) a0_0 l0_1 bt111.1 bt111.2) else (laws_FnExactGraphTable.j0 k true a0_0 l0_1 bt111.1 bt111.2))))) = some r := H
    have A9 := Aside0.mk A90
    clear A90
    replace H := Option.bind_eq_some_iff.mp H
    obtain ⟨⟨t111, t112⟩, A100, H⟩ := H
    replace H : ((impl_GraphTable.f k t111 t112 a1).bind fun bt116 => ((laws_eqTable.f bt116.1 bt116.2.1 t107 t108).bind fun t120 => (if t120 = true then (laws_FnExactGraphTable.j0 k (bt116.2.2 != t109) a0_0 l0_1 t111 t112) else (laws_FnExactGraphTable.j0 k true a0_0 l0_1 t111 t112)))) = some r := H
    have A10 := Aside0.mk A100
    clear A100
    replace H := Option.bind_eq_some_iff.mp H
    obtain ⟨⟨t116, t117, t118⟩, A110, H⟩ := H
    replace H : ((laws_eqTable.f t116 t117 t107 t108).bind fun t120 => (if t120 = true then (laws_FnExactGraphTable.j0 k (t118 != t109) a0_0 l0_1 t111 t112) else (laws_FnExactGraphTable.j0 k true a0_0 l0_1 t111 t112))) = some r := H
    have A11 := Aside0.mk A110
    clear A110
    have HC12 := Aside0.mk H
    clear H
    go_enter Try.func5, Try.ntmps5
    go_upto_region 8 with (first | ((with_reducible refine gate_dst (N := 2) rfl ?_); refine box_event ?hg (N := 2) ?hd (cs := #[.int .i64 a0_0, .slice A0_1 l0_1.length c0_1]) (t := 24) ?hr ?_; (case hd => rfl); (case hg => rfl); (case hr => first | (go_simp; done) | (go_simp; rfl)); intro gb101 hg w13 hbox hb; have n0_ := Aside0.mk (below_step (by repeat (first | (with_reducible first | exact HB.out | apply below_alloc | apply pw_below_drewN | apply below_drew1) | exact HB.out)) hb); have n1_ := Aside0.mk (hbox); have n2_ := Aside0.mk ((by rw [hg]; exact (below_size (by repeat (first | (with_reducible first | exact HB.out | apply below_alloc | apply pw_below_drewN | apply below_drew1) | exact HB.out))) : w.heap.size ≤ gb101)); have n3_ := Aside0.mk ((by rw [hg]; exact (below_size (by repeat (first | (with_reducible first | exact HB.out | apply below_alloc | apply pw_below_drewN | apply below_drew1) | exact HB.out))) : w.heap.size ≤ gb101)); clear HB; have HB := n0_; have BK101 := n1_; have GW101 := n2_; have GE101 := n3_; clear n0_ n1_ n2_ n3_; clear hb hbox hg; have hcz14_0 : w13.cell? ⟨gb101, 0, none⟩ = some (.int .i64 a0_0) := (blk_cell BK101.out 0).trans rfl; have hcz14_1 : w13.cell? ⟨gb101, 1, none⟩ = some (.slice A0_1 l0_1.length c0_1) := (blk_cell BK101.out 1).trans rfl; have hfz14_0 := blk_frozen BK101.out 0; have hfz14_1 := blk_frozen BK101.out 1) | ((with_reducible refine gate_callee (f := 15) rfl ?_); refine goesL_ (some 13) rfl rfl Try.func15 (by kernel_rfl) rfl #[.agg #[.int .i64 a0_0, .slice A0_1 l0_1.length c0_1], .int .i64 1048576] rfl (by (try simp only [List.map_toArray, List.map_cons, List.map_nil]); first | done | rfl | (simp only [List.length_drop, List.length_take]; rfl)) ?_; (with_reducible refine (laws_szGraph.calls a0_0 _ _ l0_1 1048576 t102 _ ?side1 ?side2 A3.out).mono ?_); (case side1 => repeat (first | exact (Kd.C_below HR0_1.out HB.out) | (with_reducible refine Kd.C_alloc ?_ _) | (with_reducible refine Kd.C_drewN ?_ _) | (with_reducible refine Kd.C_drew ?_))); (case side2 => exact HC0_1.out); rintro e w15 ⟨rfl, hb⟩; refine ⟨_, rfl, ?_⟩; have n0_ := Aside0.mk (blk_below (g := gb101) (o := .cells #[.int .i64 a0_0, .slice A0_1 l0_1.length c0_1] 24 (0, 0)) (by (with_reducible repeat (first | refine blk_drewN ?_ _ | refine blk_drew ?_ | refine blk_alloc ?_ _)); exact BK101.out) hb); have n1_ := Aside0.mk (below_step (by repeat (first | (with_reducible first | exact HB.out | apply below_alloc | apply pw_below_drewN | apply below_drew1 | refine below_set ?_ GE101.out) | exact HB.out)) hb); clear BK101; clear HB; have BK101 := n0_; have HB := n1_; clear n0_ n1_; (try clear hb); (try clear hb2); (try clear hk); (try clear hi); have hcz16_0 : w15.cell? ⟨gb101, 0, none⟩ = some (.int .i64 a0_0) := (blk_cell BK101.out 0).trans rfl; have hcz16_1 : w15.cell? ⟨gb101, 1, none⟩ = some (.slice A0_1 l0_1.length c0_1) := (blk_cell BK101.out 1).trans rfl; have hfz16_0 := blk_frozen BK101.out 0; have hfz16_1 := blk_frozen BK101.out 1) | ((with_reducible refine gate_callee (f := 17) rfl ?_); refine goesL_ (some 18) rfl rfl Try.func17 (by kernel_rfl) rfl #[.agg #[.int .i64 a0_0, .slice A0_1 l0_1.length c0_1]] rfl (by (try simp only [List.map_toArray, List.map_cons, List.map_nil]); first | done | rfl | (simp only [List.length_drop, List.length_take]; rfl)) ?_; (with_reducible refine (laws_toGraph.calls k a0_0 _ _ l0_1 t103 t104 _ ?side1 ?side2 A8.out).mono ?_); (case side1 => repeat (first | exact (Kd.C_below HR0_1.out HB.out) | (with_reducible refine Kd.C_alloc ?_ _) | (with_reducible refine Kd.C_drewN ?_ _) | (with_reducible refine Kd.C_drew ?_))); (case side2 => exact HC0_1.out); rintro e w17 ⟨v105, rfl, ho0, hb⟩; refine ⟨_, rfl, ?_⟩; have n0_ := Aside0.mk (Kd.R_lower ho0 (below_size (by repeat (first | (with_reducible first | exact HB.out | apply below_alloc | apply pw_below_drewN | apply below_drew1 | refine below_set ?_ GE101.out) | exact HB.out)))); have n1_ := Aside0.mk (blk_below (g := gb101) (o := .cells #[.int .i64 a0_0, .slice A0_1 l0_1.length c0_1] 24 (0, 0)) (by (with_reducible repeat (first | refine blk_drewN ?_ _ | refine blk_drew ?_ | refine blk_alloc ?_ _)); exact BK101.out) hb); have n2_ := Aside0.mk (below_step (by repeat (first | (with_reducible first | exact HB.out | apply below_alloc | apply pw_below_drewN | apply below_drew1 | refine below_set ?_ GE101.out) | exact HB.out)) hb); clear BK101; clear HB; have HO106 := n0_; have BK101 := n1_; have HB := n2_; clear n0_ n1_ n2_; (try clear hb); (try clear hb2); (try clear hk); (try clear hi); (try clear ho0); obtain ⟨Ao18, co18, eo18⟩ := Kd.R_slice HO106.out; subst eo18) | ((with_reducible refine gate_callee (f := 22) rfl ?_); refine goesL_ (some 20) rfl rfl Try.func22 (by kernel_rfl) rfl #[.agg #[.int .i64 t103, .slice Ao18 t104.length co18], .int .i64 a1] rfl (by (try simp only [List.map_toArray, List.map_cons, List.map_nil]); first | done | rfl | (simp only [List.length_drop, List.length_take]; rfl)) ?_; (with_reducible refine (spec_GraphTable.calls k t103 _ _ t104 a1 t107 t108 t109 _ ?side1 ?side2 A9.out).mono ?_); (case side1 => repeat (first | exact (Kd.R_reads' HO106.out).2.2 | (with_reducible refine Kd.C_alloc ?_ _) | (with_reducible refine Kd.C_drewN ?_ _) | (with_reducible refine Kd.C_drew ?_))); (case side2 => exact (Kd.R_reads' HO106.out).2.1); rintro e w19 ⟨rfl, hb⟩; refine ⟨_, rfl, ?_⟩; have n0_ := Aside0.mk (Kd.R_below (by (with_reducible repeat (first | apply Kd.R_alloc | apply Kd.R_drewN | apply Kd.R_drew)); exact HO106.out) hb); have n1_ := Aside0.mk (blk_below (g := gb101) (o := .cells #[.int .i64 a0_0, .slice A0_1 l0_1.length c0_1] 24 (0, 0)) (by (with_reducible repeat (first | refine blk_drewN ?_ _ | refine blk_drew ?_ | refine blk_alloc ?_ _)); exact BK101.out) hb); have n2_ := Aside0.mk (below_step (by repeat (first | (with_reducible first | exact HB.out | apply below_alloc | apply pw_below_drewN | apply below_drew1 | refine below_set ?_ GE101.out) | exact HB.out)) hb); clear HO106; clear BK101; clear HB; have HO106 := n0_; have BK101 := n1_; have HB := n2_; clear n0_ n1_ n2_; (try clear hb); (try clear hb2); (try clear hk); (try clear hi)) | ((with_reducible refine gate_dst (N := 6) rfl ?_); refine box_event ?hg (N := 6) ?hd (cs := #[.int .i64 0, .string (⟨#[]⟩ : ByteArray)]) (t := 36) ?hr ?_; (case hd => rfl); (case hg => rfl); (case hr => first | (go_simp; done) | (go_simp; rfl)); intro gb110 hg w20 hbox hb; have n0_ := Aside0.mk (Kd.R_below (by (with_reducible repeat (first | apply Kd.R_alloc | apply Kd.R_drewN | apply Kd.R_drew)); exact HO106.out) hb); have n1_ := Aside0.mk (blk_below (g := gb101) (o := .cells #[.int .i64 a0_0, .slice A0_1 l0_1.length c0_1] 24 (0, 0)) (by (with_reducible repeat (first | refine blk_drewN ?_ _ | refine blk_drew ?_ | refine blk_alloc ?_ _)); exact BK101.out) hb); have n2_ := Aside0.mk (below_step (by repeat (first | (with_reducible first | exact HB.out | apply below_alloc | apply pw_below_drewN | apply below_drew1 | refine below_set ?_ GE101.out) | exact HB.out)) hb); have n3_ := Aside0.mk (hbox); have n4_ := Aside0.mk ((by rw [hg]; exact (below_size (by repeat (first | (with_reducible first | exact HB.out | apply below_alloc | apply pw_below_drewN | apply below_drew1 | refine below_set ?_ GE101.out) | exact HB.out))) : w.heap.size ≤ gb110)); have n5_ := Aside0.mk ((by rw [hg]; exact (below_size (by repeat (first | (with_reducible first | exact HB.out | apply below_alloc | apply pw_below_drewN | apply below_drew1 | refine below_set ?_ GE101.out) | exact HB.out))) : w.heap.size ≤ gb110)); have n6_ := Aside0.mk ((by rw [hg]; exact Nat.ne_of_lt (blk_lt (g := gb101) (o := .cells #[.int .i64 a0_0, .slice A0_1 l0_1.length c0_1] 24 (0, 0)) (by (with_reducible repeat (first | refine blk_drewN ?_ _ | refine blk_drew ?_ | refine blk_alloc ?_ _)); exact BK101.out)) : gb101 ≠ gb110)); have n7_ := Aside0.mk ((by rw [hg]; exact Nat.ne_of_gt (blk_lt (g := gb101) (o := .cells #[.int .i64 a0_0, .slice A0_1 l0_1.length c0_1] 24 (0, 0)) (by (with_reducible repeat (first | refine blk_drewN ?_ _ | refine blk_drew ?_ | refine blk_alloc ?_ _)); exact BK101.out)) : gb110 ≠ gb101)); clear HO106; clear BK101; clear HB; have HO106 := n0_; have BK101 := n1_; have HB := n2_; have BK110 := n3_; have GW110 := n4_; have GE110 := n5_; have NB101_110 := n6_; have NB110_101 := n7_; clear n0_ n1_ n2_ n3_ n4_ n5_ n6_ n7_; clear hb hbox hg; have hnb21 := NB110_101.out; have hnc21 := NB101_110.out; have hcz22_0 : w20.cell? ⟨gb110, 0, none⟩ = some (.int .i64 0) := (blk_cell BK110.out 0).trans rfl; have hcz22_1 : w20.cell? ⟨gb110, 1, none⟩ = some (.string (⟨#[]⟩ : ByteArray)) := (blk_cell BK110.out 1).trans rfl; have hfz22_0 := blk_frozen BK110.out 0; have hfz22_1 := blk_frozen BK110.out 1; have hcz23_0 : w20.cell? ⟨gb101, 0, none⟩ = some (.int .i64 a0_0) := (blk_cell BK101.out 0).trans rfl; have hcz23_1 : w20.cell? ⟨gb101, 1, none⟩ = some (.slice A0_1 l0_1.length c0_1) := (blk_cell BK101.out 1).trans rfl; have hfz23_0 := blk_frozen BK101.out 0; have hfz23_1 := blk_frozen BK101.out 1) | ((with_reducible refine gate_callee (f := 17) rfl ?_); refine goesL_ (some 24) rfl rfl Try.func17 (by kernel_rfl) rfl #[.agg #[.int .i64 a0_0, .slice A0_1 l0_1.length c0_1]] rfl (by (try simp only [List.map_toArray, List.map_cons, List.map_nil]); first | done | rfl | (simp only [List.length_drop, List.length_take]; rfl)) ?_; (with_reducible refine (laws_toGraph.calls k a0_0 _ _ l0_1 t111 t112 _ ?side1 ?side2 A10.out).mono ?_); (case side1 => exact Kd.C_below HR0_1.out (by repeat (first | (with_reducible first | exact HB.out | apply below_alloc | apply pw_below_drewN | apply below_drew1 | refine below_set ?_ GE101.out | refine below_set ?_ GE110.out) | exact HB.out))); (case side2 => exact HC0_1.out); rintro e w24 ⟨v113, rfl, ho0, hb⟩; refine ⟨_, rfl, ?_⟩; have n0_ := Aside0.mk (Kd.R_elder' (by (with_reducible repeat (first | apply Kd.R_alloc | apply Kd.R_drewN | apply Kd.R_drew)); exact (Kd.R_mono (Kd.R_far (p := ⟨gb110, 1, none⟩) (Kd.R_far (p := ⟨gb110, 0, none⟩) (Kd.R_types HO106.out BK110.out (by decide)) (fun _ hk => hk.2) (.int .i64 t107)) (fun _ hk => hk.2) (.string t108)) (fun _ h_ => h_.1))) (Kd.R_base ho0) hb); have n1_ := Aside0.mk (Kd.R_lower (Kd.R_new' ho0 (Kd.R_lt (by (with_reducible repeat (first | apply Kd.R_alloc | apply Kd.R_drewN | apply Kd.R_drew)); exact (Kd.R_mono (Kd.R_far (p := ⟨gb110, 1, none⟩) (Kd.R_far (p := ⟨gb110, 0, none⟩) (Kd.R_types HO106.out BK110.out (by decide)) (fun _ hk => hk.2) (.int .i64 t107)) (fun _ hk => hk.2) (.string t108)) (fun _ h_ => h_.1))))) (below_size (by repeat (first | (with_reducible first | exact HB.out | apply below_alloc | apply pw_below_drewN | apply below_drew1 | refine below_set ?_ GE101.out | refine below_set ?_ GE110.out) | exact HB.out)))); have n2_ := Aside0.mk (blk_below (g := gb101) (o := .cells #[.int .i64 a0_0, .slice A0_1 l0_1.length c0_1] 24 (0, 0)) (by (with_reducible repeat (first | refine blk_drewN ?_ _ | refine blk_drew ?_ | refine blk_alloc ?_ _)); refine blk_far ?_ NB101_110.out _; (with_reducible repeat (first | refine blk_drewN ?_ _ | refine blk_drew ?_ | refine blk_alloc ?_ _)); refine blk_far ?_ NB101_110.out _; (with_reducible repeat (first | refine blk_drewN ?_ _ | refine blk_drew ?_ | refine blk_alloc ?_ _)); exact BK101.out) hb); have n3_ := Aside0.mk (blk_below (g := gb110) (o := .cells #[.int .i64 t107, .string t108] 36 (0, 0)) (by (with_reducible repeat (first | refine blk_drewN ?_ _ | refine blk_drew ?_ | refine blk_alloc ?_ _)); refine blk_put (cs := #[.int .i64 t107, .string (⟨#[]⟩ : ByteArray)]) ?_ 1 _ rfl; (with_reducible repeat (first | refine blk_drewN ?_ _ | refine blk_drew ?_ | refine blk_alloc ?_ _)); refine blk_put (cs := #[.int .i64 0, .string (⟨#[]⟩ : ByteArray)]) ?_ 0 _ rfl; (with_reducible repeat (first | refine blk_drewN ?_ _ | refine blk_drew ?_ | refine blk_alloc ?_ _)); exact BK110.out) hb); have n4_ := Aside0.mk (below_step (by repeat (first | (with_reducible first | exact HB.out | apply below_alloc | apply pw_below_drewN | apply below_drew1 | refine below_set ?_ GE101.out | refine below_set ?_ GE110.out) | exact HB.out)) hb); clear HO106; clear BK101; clear BK110; clear HB; have HO106 := n0_; have HO114 := n1_; have BK101 := n2_; have BK110 := n3_; have HB := n4_; clear n0_ n1_ n2_ n3_ n4_; (try clear hb); (try clear hb2); (try clear hk); (try clear hi); (try clear ho0)) | ((with_reducible refine gate_dst (N := 8) rfl ?_); refine box_event ?hg (N := 8) ?hd (cs := #[.int .i64 0, .slice none 0 0]) (t := 29) ?hr ?_; (case hd => rfl); (case hg => rfl); (case hr => first | (go_simp; done) | (go_simp; rfl)); intro gb115 hg w25 hbox hb; have n0_ := Aside0.mk (Kd.R_below (by (with_reducible repeat (first | apply Kd.R_alloc | apply Kd.R_drewN | apply Kd.R_drew)); exact HO106.out) hb); have n1_ := Aside0.mk (Kd.R_below (by (with_reducible repeat (first | apply Kd.R_alloc | apply Kd.R_drewN | apply Kd.R_drew)); exact HO114.out) hb); have n2_ := Aside0.mk (blk_below (g := gb101) (o := .cells #[.int .i64 a0_0, .slice A0_1 l0_1.length c0_1] 24 (0, 0)) (by (with_reducible repeat (first | refine blk_drewN ?_ _ | refine blk_drew ?_ | refine blk_alloc ?_ _)); exact BK101.out) hb); have n3_ := Aside0.mk (blk_below (g := gb110) (o := .cells #[.int .i64 t107, .string t108] 36 (0, 0)) (by (with_reducible repeat (first | refine blk_drewN ?_ _ | refine blk_drew ?_ | refine blk_alloc ?_ _)); exact BK110.out) hb); have n4_ := Aside0.mk (below_step (by repeat (first | (with_reducible first | exact HB.out | apply below_alloc | apply pw_below_drewN | apply below_drew1 | refine below_set ?_ GE101.out | refine below_set ?_ GE110.out) | exact HB.out)) hb); have n5_ := Aside0.mk (hbox); have n6_ := Aside0.mk ((by rw [hg]; exact (below_size (by repeat (first | (with_reducible first | exact HB.out | apply below_alloc | apply pw_below_drewN | apply below_drew1 | refine below_set ?_ GE101.out | refine below_set ?_ GE110.out) | exact HB.out))) : w.heap.size ≤ gb115)); have n7_ := Aside0.mk ((by rw [hg]; exact (below_size (by repeat (first | (with_reducible first | exact HB.out | apply below_alloc | apply pw_below_drewN | apply below_drew1 | refine below_set ?_ GE101.out | refine below_set ?_ GE110.out) | exact HB.out))) : w.heap.size ≤ gb115)); have n8_ := Aside0.mk ((by rw [hg]; exact Nat.ne_of_lt (blk_lt (g := gb101) (o := .cells #[.int .i64 a0_0, .slice A0_1 l0_1.length c0_1] 24 (0, 0)) (by (with_reducible repeat (first | refine blk_drewN ?_ _ | refine blk_drew ?_ | refine blk_alloc ?_ _)); exact BK101.out)) : gb101 ≠ gb115)); have n9_ := Aside0.mk ((by rw [hg]; exact Nat.ne_of_gt (blk_lt (g := gb101) (o := .cells #[.int .i64 a0_0, .slice A0_1 l0_1.length c0_1] 24 (0, 0)) (by (with_reducible repeat (first | refine blk_drewN ?_ _ | refine blk_drew ?_ | refine blk_alloc ?_ _)); exact BK101.out)) : gb115 ≠ gb101)); have n10_ := Aside0.mk ((by rw [hg]; exact Nat.ne_of_lt (blk_lt (g := gb110) (o := .cells #[.int .i64 t107, .string t108] 36 (0, 0)) (by (with_reducible repeat (first | refine blk_drewN ?_ _ | refine blk_drew ?_ | refine blk_alloc ?_ _)); exact BK110.out)) : gb110 ≠ gb115)); have n11_ := Aside0.mk ((by rw [hg]; exact Nat.ne_of_gt (blk_lt (g := gb110) (o := .cells #[.int .i64 t107, .string t108] 36 (0, 0)) (by (with_reducible repeat (first | refine blk_drewN ?_ _ | refine blk_drew ?_ | refine blk_alloc ?_ _)); exact BK110.out)) : gb115 ≠ gb110)); clear HO106; clear HO114; clear BK101; clear BK110; clear HB; have HO106 := n0_; have HO114 := n1_; have BK101 := n2_; have BK110 := n3_; have HB := n4_; have BK115 := n5_; have GW115 := n6_; have GE115 := n7_; have NB101_115 := n8_; have NB115_101 := n9_; have NB110_115 := n10_; have NB115_110 := n11_; clear n0_ n1_ n2_ n3_ n4_ n5_ n6_ n7_ n8_ n9_ n10_ n11_; clear hb hbox hg; have hnb26 := NB115_101.out; have hnc26 := NB101_115.out; have hnb27 := NB115_110.out; have hnc27 := NB110_115.out; have hcz28_0 : w25.cell? ⟨gb115, 0, none⟩ = some (.int .i64 0) := (blk_cell BK115.out 0).trans rfl; have hcz28_1 : w25.cell? ⟨gb115, 1, none⟩ = some (.slice none 0 0) := (blk_cell BK115.out 1).trans rfl; have hfz28_0 := blk_frozen BK115.out 0; have hfz28_1 := blk_frozen BK115.out 1; obtain ⟨Ao29, co29, eo29⟩ := Kd.R_slice HO114.out; subst eo29) | ((with_reducible refine gate_callee (f := 23) rfl ?_); refine goesL_ (some 28) rfl rfl Try.func23 (by kernel_rfl) rfl #[.agg #[.int .i64 t111, .slice Ao29 t112.length co29], .int .i64 a1] rfl (by (try simp only [List.map_toArray, List.map_cons, List.map_nil]); first | done | rfl | (simp only [List.length_drop, List.length_take]; rfl)) ?_; (with_reducible refine (impl_GraphTable.calls k t111 _ _ t112 a1 t116 t117 t118 _ ?side1 ?side2 A11.out).mono ?_); (case side1 => refine (Kd.R_reads' (e := 79) (base := w.heap.size) (ok := fun k_ => (True ∧ some k_ ≠ (.slice Ao18 t104.length co18 : Value).ownBlock)) (n := t112.length) (c := co29) ?_).2.2; exact (by (with_reducible repeat (first | apply Kd.R_alloc | apply Kd.R_drewN | apply Kd.R_drew)); exact (Kd.R_mono (Kd.R_far (p := ⟨gb115, 1, none⟩) (Kd.R_far (p := ⟨gb115, 0, none⟩) (Kd.R_types HO114.out BK115.out (by decide)) (fun _ hk => hk.2) (.int .i64 t111)) (fun _ hk => hk.2) (.slice Ao29 t112.length co29)) (fun _ h_ => h_.1)))); (case side2 => exact (Kd.R_reads' HO114.out).2.1); rintro e w30 ⟨rfl, hb⟩; refine ⟨_, rfl, ?_⟩; have n0_ := Aside0.mk (Kd.R_below (by (with_reducible repeat (first | apply Kd.R_alloc | apply Kd.R_drewN | apply Kd.R_drew)); exact (Kd.R_mono (Kd.R_far (p := ⟨gb115, 1, none⟩) (Kd.R_far (p := ⟨gb115, 0, none⟩) (Kd.R_types HO106.out BK115.out (by decide)) (fun _ hk => hk.2) (.int .i64 t111)) (fun _ hk => hk.2) (.slice Ao29 t112.length co29)) (fun _ h_ => h_.1))) hb); have n1_ := Aside0.mk (Kd.R_below (by (with_reducible repeat (first | apply Kd.R_alloc | apply Kd.R_drewN | apply Kd.R_drew)); exact (Kd.R_mono (Kd.R_far (p := ⟨gb115, 1, none⟩) (Kd.R_far (p := ⟨gb115, 0, none⟩) (Kd.R_types HO114.out BK115.out (by decide)) (fun _ hk => hk.2) (.int .i64 t111)) (fun _ hk => hk.2) (.slice Ao29 t112.length co29)) (fun _ h_ => h_.1))) hb); have n2_ := Aside0.mk (blk_below (g := gb101) (o := .cells #[.int .i64 a0_0, .slice A0_1 l0_1.length c0_1] 24 (0, 0)) (by (with_reducible repeat (first | refine blk_drewN ?_ _ | refine blk_drew ?_ | refine blk_alloc ?_ _)); refine blk_far ?_ NB101_115.out _; (with_reducible repeat (first | refine blk_drewN ?_ _ | refine blk_drew ?_ | refine blk_alloc ?_ _)); refine blk_far ?_ NB101_115.out _; (with_reducible repeat (first | refine blk_drewN ?_ _ | refine blk_drew ?_ | refine blk_alloc ?_ _)); exact BK101.out) hb); have n3_ := Aside0.mk (blk_below (g := gb110) (o := .cells #[.int .i64 t107, .string t108] 36 (0, 0)) (by (with_reducible repeat (first | refine blk_drewN ?_ _ | refine blk_drew ?_ | refine blk_alloc ?_ _)); refine blk_far ?_ NB110_115.out _; (with_reducible repeat (first | refine blk_drewN ?_ _ | refine blk_drew ?_ | refine blk_alloc ?_ _)); refine blk_far ?_ NB110_115.out _; (with_reducible repeat (first | refine blk_drewN ?_ _ | refine blk_drew ?_ | refine blk_alloc ?_ _)); exact BK110.out) hb); have n4_ := Aside0.mk (blk_below (g := gb115) (o := .cells #[.int .i64 t111, .slice Ao29 t112.length co29] 29 (0, 0)) (by (with_reducible repeat (first | refine blk_drewN ?_ _ | refine blk_drew ?_ | refine blk_alloc ?_ _)); refine blk_put (cs := #[.int .i64 t111, .slice none 0 0]) ?_ 1 _ rfl; (with_reducible repeat (first | refine blk_drewN ?_ _ | refine blk_drew ?_ | refine blk_alloc ?_ _)); refine blk_put (cs := #[.int .i64 0, .slice none 0 0]) ?_ 0 _ rfl; (with_reducible repeat (first | refine blk_drewN ?_ _ | refine blk_drew ?_ | refine blk_alloc ?_ _)); exact BK115.out) hb); have n5_ := Aside0.mk (below_step (by repeat (first | (with_reducible first | exact HB.out | apply below_alloc | apply pw_below_drewN | apply below_drew1 | refine below_set ?_ GE101.out | refine below_set ?_ GE110.out | refine below_set ?_ GE115.out) | exact HB.out)) hb); clear HO106; clear HO114; clear BK101; clear BK110; clear BK115; clear HB; have HO106 := n0_; have HO114 := n1_; have BK101 := n2_; have BK110 := n3_; have BK115 := n4_; have HB := n5_; clear n0_ n1_ n2_ n3_ n4_ n5_; (try clear hb); (try clear hb2); (try clear hk); (try clear hi)) | ((with_reducible refine gate_dst (N := 9) rfl ?_); refine box_event ?hg (N := 9) ?hd (cs := #[.int .i64 0, .string (⟨#[]⟩ : ByteArray)]) (t := 36) ?hr ?_; (case hd => rfl); (case hg => rfl); (case hr => first | (go_simp; done) | (go_simp; rfl)); intro gb119 hg w31 hbox hb; have n0_ := Aside0.mk (Kd.R_below (by (with_reducible repeat (first | apply Kd.R_alloc | apply Kd.R_drewN | apply Kd.R_drew)); exact HO106.out) hb); have n1_ := Aside0.mk (Kd.R_below (by (with_reducible repeat (first | apply Kd.R_alloc | apply Kd.R_drewN | apply Kd.R_drew)); exact HO114.out) hb); have n2_ := Aside0.mk (blk_below (g := gb101) (o := .cells #[.int .i64 a0_0, .slice A0_1 l0_1.length c0_1] 24 (0, 0)) (by (with_reducible repeat (first | refine blk_drewN ?_ _ | refine blk_drew ?_ | refine blk_alloc ?_ _)); exact BK101.out) hb); have n3_ := Aside0.mk (blk_below (g := gb110) (o := .cells #[.int .i64 t107, .string t108] 36 (0, 0)) (by (with_reducible repeat (first | refine blk_drewN ?_ _ | refine blk_drew ?_ | refine blk_alloc ?_ _)); exact BK110.out) hb); have n4_ := Aside0.mk (blk_below (g := gb115) (o := .cells #[.int .i64 t111, .slice Ao29 t112.length co29] 29 (0, 0)) (by (with_reducible repeat (first | refine blk_drewN ?_ _ | refine blk_drew ?_ | refine blk_alloc ?_ _)); exact BK115.out) hb); have n5_ := Aside0.mk (below_step (by repeat (first | (with_reducible first | exact HB.out | apply below_alloc | apply pw_below_drewN | apply below_drew1 | refine below_set ?_ GE101.out | refine below_set ?_ GE110.out | refine below_set ?_ GE115.out) | exact HB.out)) hb); have n6_ := Aside0.mk (hbox); have n7_ := Aside0.mk ((by rw [hg]; exact (below_size (by repeat (first | (with_reducible first | exact HB.out | apply below_alloc | apply pw_below_drewN | apply below_drew1 | refine below_set ?_ GE101.out | refine below_set ?_ GE110.out | refine below_set ?_ GE115.out) | exact HB.out))) : w.heap.size ≤ gb119)); have n8_ := Aside0.mk ((by rw [hg]; exact (below_size (by repeat (first | (with_reducible first | exact HB.out | apply below_alloc | apply pw_below_drewN | apply below_drew1 | refine below_set ?_ GE101.out | refine below_set ?_ GE110.out | refine below_set ?_ GE115.out) | exact HB.out))) : w.heap.size ≤ gb119)); have n9_ := Aside0.mk ((by rw [hg]; exact Nat.ne_of_lt (blk_lt (g := gb101) (o := .cells #[.int .i64 a0_0, .slice A0_1 l0_1.length c0_1] 24 (0, 0)) (by (with_reducible repeat (first | refine blk_drewN ?_ _ | refine blk_drew ?_ | refine blk_alloc ?_ _)); exact BK101.out)) : gb101 ≠ gb119)); have n10_ := Aside0.mk ((by rw [hg]; exact Nat.ne_of_gt (blk_lt (g := gb101) (o := .cells #[.int .i64 a0_0, .slice A0_1 l0_1.length c0_1] 24 (0, 0)) (by (with_reducible repeat (first | refine blk_drewN ?_ _ | refine blk_drew ?_ | refine blk_alloc ?_ _)); exact BK101.out)) : gb119 ≠ gb101)); have n11_ := Aside0.mk ((by rw [hg]; exact Nat.ne_of_lt (blk_lt (g := gb110) (o := .cells #[.int .i64 t107, .string t108] 36 (0, 0)) (by (with_reducible repeat (first | refine blk_drewN ?_ _ | refine blk_drew ?_ | refine blk_alloc ?_ _)); exact BK110.out)) : gb110 ≠ gb119)); have n12_ := Aside0.mk ((by rw [hg]; exact Nat.ne_of_gt (blk_lt (g := gb110) (o := .cells #[.int .i64 t107, .string t108] 36 (0, 0)) (by (with_reducible repeat (first | refine blk_drewN ?_ _ | refine blk_drew ?_ | refine blk_alloc ?_ _)); exact BK110.out)) : gb119 ≠ gb110)); have n13_ := Aside0.mk ((by rw [hg]; exact Nat.ne_of_lt (blk_lt (g := gb115) (o := .cells #[.int .i64 t111, .slice Ao29 t112.length co29] 29 (0, 0)) (by (with_reducible repeat (first | refine blk_drewN ?_ _ | refine blk_drew ?_ | refine blk_alloc ?_ _)); exact BK115.out)) : gb115 ≠ gb119)); have n14_ := Aside0.mk ((by rw [hg]; exact Nat.ne_of_gt (blk_lt (g := gb115) (o := .cells #[.int .i64 t111, .slice Ao29 t112.length co29] 29 (0, 0)) (by (with_reducible repeat (first | refine blk_drewN ?_ _ | refine blk_drew ?_ | refine blk_alloc ?_ _)); exact BK115.out)) : gb119 ≠ gb115)); clear HO106; clear HO114; clear BK101; clear BK110; clear BK115; clear HB; have HO106 := n0_; have HO114 := n1_; have BK101 := n2_; have BK110 := n3_; have BK115 := n4_; have HB := n5_; have BK119 := n6_; have GW119 := n7_; have GE119 := n8_; have NB101_119 := n9_; have NB119_101 := n10_; have NB110_119 := n11_; have NB119_110 := n12_; have NB115_119 := n13_; have NB119_115 := n14_; clear n0_ n1_ n2_ n3_ n4_ n5_ n6_ n7_ n8_ n9_ n10_ n11_ n12_ n13_ n14_; clear hb hbox hg; have hnb32 := NB119_101.out; have hnc32 := NB101_119.out; have hnb33 := NB119_110.out; have hnc33 := NB110_119.out; have hnb34 := NB119_115.out; have hnc34 := NB115_119.out; have hcz35_0 : w31.cell? ⟨gb119, 0, none⟩ = some (.int .i64 0) := (blk_cell BK119.out 0).trans rfl; have hcz35_1 : w31.cell? ⟨gb119, 1, none⟩ = some (.string (⟨#[]⟩ : ByteArray)) := (blk_cell BK119.out 1).trans rfl; have hfz35_0 := blk_frozen BK119.out 0; have hfz35_1 := blk_frozen BK119.out 1))
    (try simp only [Act.put, List.setIfInBounds_toArray, List.set_cons_zero, List.set_cons_succ])
    go_cut [39] (fun v39 wc => ∃ (kq : Nat) (x39_11 : Bool), v39 = .bool x39_11 ∧ Aside0 (laws_FnExactGraphTable.j0 kq x39_11 a0_0 l0_1 t111 t112 = some r) ∧ Aside0 (kq ≤ k) ∧ Aside0 (Kd.R k79 79 wc w.heap.size (fun _ => True) (.slice Ao29 t112.length co29) t112) ∧ Aside0 (wc.heap[gb101]? = some (.cells #[.int .i64 a0_0, (.slice A0_1 l0_1.length c0_1)] 24 (0, 0))) ∧ Aside0 (wc.heap[gb110]? = some (.cells #[.int .i64 t107, .string t108] 36 (0, 0))) ∧ Aside0 (wc.heap[gb115]? = some (.cells #[.int .i64 t111, (.slice Ao29 t112.length co29)] 29 (0, 0))) ∧ Aside0 (wc.heap[gb119]? = some (.cells #[.int .i64 t116, .string t117] 36 (0, 0))) ∧ Aside0 (Below w.heap.size w wc))
    case first =>
      have H := HC12.out
      clear HC12
      replace H := Option.bind_eq_some_iff.mp H
      obtain ⟨t120, A360, H⟩ := H
      replace H : (if t120 = true then (laws_FnExactGraphTable.j0 k (t118 != t109) a0_0 l0_1 t111 t112) else (laws_FnExactGraphTable.j0 k true a0_0 l0_1 t111 t112)) = some r := H
      have A36 := Aside0.mk A360
      clear A360
      by_cases c37 : t120 = true
      · subst c37
        have H1 : (laws_FnExactGraphTable.j0 k (t118 != t109) a0_0 l0_1 t111 t112) = some r := by rw [if_pos rfl] at H; exact H
        clear H
        have H := H1
        clear H1
        have H' := Aside0.mk H
        clear H
        have hnb38 := NB119_101.out
        have hnc38 := NB101_119.out
        have hnb39 := NB119_110.out
        have hnc39 := NB110_119.out
        have hnb40 := NB119_115.out
        have hnc40 := NB115_119.out
        have hcz41_0 : w31.cell? ⟨gb119, 0, none⟩ = some (.int .i64 0) := (blk_cell BK119.out 0).trans rfl
        have hcz41_1 : w31.cell? ⟨gb119, 1, none⟩ = some (.string (⟨#[]⟩ : ByteArray)) := (blk_cell BK119.out 1).trans rfl
        have hfz41_0 := blk_frozen BK119.out 0
        have hfz41_1 := blk_frozen BK119.out 1
        have hnb42 := NB110_101.out
        have hnc42 := NB101_110.out
        have hnb43 := NB110_115.out
        have hnc43 := NB115_110.out
        have hcz44_0 : w31.cell? ⟨gb110, 0, none⟩ = some (.int .i64 t107) := (blk_cell BK110.out 0).trans rfl
        have hcz44_1 : w31.cell? ⟨gb110, 1, none⟩ = some (.string t108) := (blk_cell BK110.out 1).trans rfl
        have hfz44_0 := blk_frozen BK110.out 0
        have hfz44_1 := blk_frozen BK110.out 1
        go_wp2_with (first | ((with_reducible refine gate_callee (f := 24) rfl ?_); refine goesL_ (some 33) rfl rfl Try.func24 (by kernel_rfl) rfl #[.agg #[.int .i64 t116, .string t117], .agg #[.int .i64 t107, .string t108]] rfl (by (try simp only [List.map_toArray, List.map_cons, List.map_nil]); first | done | rfl | (simp only [List.length_drop, List.length_take]; rfl)) ?_; (with_reducible refine (laws_eqTable.calls t116 t117 t107 t108 true _ A36.out).mono ?_); rintro e w45 ⟨rfl, hb⟩; refine ⟨_, rfl, ?_⟩; have n0_ := Aside0.mk (Kd.R_below (by (with_reducible repeat (first | apply Kd.R_alloc | apply Kd.R_drewN | apply Kd.R_drew)); exact (Kd.R_mono (Kd.R_far (p := ⟨gb119, 1, none⟩) (Kd.R_far (p := ⟨gb119, 0, none⟩) (Kd.R_types HO106.out BK119.out (by decide)) (fun _ hk => hk.2) (.int .i64 t116)) (fun _ hk => hk.2) (.string t117)) (fun _ h_ => h_.1))) hb); have n1_ := Aside0.mk (Kd.R_below (by (with_reducible repeat (first | apply Kd.R_alloc | apply Kd.R_drewN | apply Kd.R_drew)); exact (Kd.R_mono (Kd.R_far (p := ⟨gb119, 1, none⟩) (Kd.R_far (p := ⟨gb119, 0, none⟩) (Kd.R_types HO114.out BK119.out (by decide)) (fun _ hk => hk.2) (.int .i64 t116)) (fun _ hk => hk.2) (.string t117)) (fun _ h_ => h_.1))) hb); have n2_ := Aside0.mk (blk_below (g := gb101) (o := .cells #[.int .i64 a0_0, .slice A0_1 l0_1.length c0_1] 24 (0, 0)) (by (with_reducible repeat (first | refine blk_drewN ?_ _ | refine blk_drew ?_ | refine blk_alloc ?_ _)); refine blk_far ?_ NB101_119.out _; (with_reducible repeat (first | refine blk_drewN ?_ _ | refine blk_drew ?_ | refine blk_alloc ?_ _)); refine blk_far ?_ NB101_119.out _; (with_reducible repeat (first | refine blk_drewN ?_ _ | refine blk_drew ?_ | refine blk_alloc ?_ _)); exact BK101.out) hb); have n3_ := Aside0.mk (blk_below (g := gb110) (o := .cells #[.int .i64 t107, .string t108] 36 (0, 0)) (by (with_reducible repeat (first | refine blk_drewN ?_ _ | refine blk_drew ?_ | refine blk_alloc ?_ _)); refine blk_far ?_ NB110_119.out _; (with_reducible repeat (first | refine blk_drewN ?_ _ | refine blk_drew ?_ | refine blk_alloc ?_ _)); refine blk_far ?_ NB110_119.out _; (with_reducible repeat (first | refine blk_drewN ?_ _ | refine blk_drew ?_ | refine blk_alloc ?_ _)); exact BK110.out) hb); have n4_ := Aside0.mk (blk_below (g := gb115) (o := .cells #[.int .i64 t111, .slice Ao29 t112.length co29] 29 (0, 0)) (by (with_reducible repeat (first | refine blk_drewN ?_ _ | refine blk_drew ?_ | refine blk_alloc ?_ _)); refine blk_far ?_ NB115_119.out _; (with_reducible repeat (first | refine blk_drewN ?_ _ | refine blk_drew ?_ | refine blk_alloc ?_ _)); refine blk_far ?_ NB115_119.out _; (with_reducible repeat (first | refine blk_drewN ?_ _ | refine blk_drew ?_ | refine blk_alloc ?_ _)); exact BK115.out) hb); have n5_ := Aside0.mk (blk_below (g := gb119) (o := .cells #[.int .i64 t116, .string t117] 36 (0, 0)) (by (with_reducible repeat (first | refine blk_drewN ?_ _ | refine blk_drew ?_ | refine blk_alloc ?_ _)); refine blk_put (cs := #[.int .i64 t116, .string (⟨#[]⟩ : ByteArray)]) ?_ 1 _ rfl; (with_reducible repeat (first | refine blk_drewN ?_ _ | refine blk_drew ?_ | refine blk_alloc ?_ _)); refine blk_put (cs := #[.int .i64 0, .string (⟨#[]⟩ : ByteArray)]) ?_ 0 _ rfl; (with_reducible repeat (first | refine blk_drewN ?_ _ | refine blk_drew ?_ | refine blk_alloc ?_ _)); exact BK119.out) hb); have n6_ := Aside0.mk (below_step (by repeat (first | (with_reducible first | exact HB.out | apply below_alloc | apply pw_below_drewN | apply below_drew1 | refine below_set ?_ GE101.out | refine below_set ?_ GE110.out | refine below_set ?_ GE115.out | refine below_set ?_ GE119.out) | exact HB.out)) hb); clear HO106; clear HO114; clear BK101; clear BK110; clear BK115; clear BK119; clear HB; have HO106 := n0_; have HO114 := n1_; have BK101 := n2_; have BK110 := n3_; have BK115 := n4_; have BK119 := n5_; have HB := n6_; clear n0_ n1_ n2_ n3_ n4_ n5_ n6_; (try clear hb); (try clear hb2); (try clear hk); (try clear hi)))
        go_meet
        case rel => exact ⟨_, ((t118 != t109)), (by first | rfl | (simp; done) | (simp [*]; done)), H', ⟨by first | omega | exact Nat.le_refl _⟩, ⟨by (with_reducible repeat (first | apply Kd.R_alloc | apply Kd.R_drewN | apply Kd.R_drew)); exact Kd.R_mono HO114.out (fun _ hk => trivial)⟩, ⟨by (with_reducible repeat (first | refine blk_drewN ?_ _ | refine blk_drew ?_ | refine blk_alloc ?_ _)); exact BK101.out⟩, ⟨by (with_reducible repeat (first | refine blk_drewN ?_ _ | refine blk_drew ?_ | refine blk_alloc ?_ _)); exact BK110.out⟩, ⟨by (with_reducible repeat (first | refine blk_drewN ?_ _ | refine blk_drew ?_ | refine blk_alloc ?_ _)); exact BK115.out⟩, ⟨by (with_reducible repeat (first | refine blk_drewN ?_ _ | refine blk_drew ?_ | refine blk_alloc ?_ _)); exact BK119.out⟩, ⟨by repeat (first | (with_reducible first | exact HB.out | apply below_alloc | apply pw_below_drewN | apply below_drew1 | refine below_set ?_ GE101.out | refine below_set ?_ GE110.out | refine below_set ?_ GE115.out | refine below_set ?_ GE119.out) | exact HB.out)⟩⟩
      · replace c37 := Bool.eq_false_iff.mpr c37
        subst c37
        have H1 : (laws_FnExactGraphTable.j0 k true a0_0 l0_1 t111 t112) = some r := by rw [if_neg (show ¬ (false = true) by decide)] at H; exact H
        clear H
        have H := H1
        clear H1
        have H' := Aside0.mk H
        clear H
        have hnb46 := NB119_101.out
        have hnc46 := NB101_119.out
        have hnb47 := NB119_110.out
        have hnc47 := NB110_119.out
        have hnb48 := NB119_115.out
        have hnc48 := NB115_119.out
        have hcz49_0 : w31.cell? ⟨gb119, 0, none⟩ = some (.int .i64 0) := (blk_cell BK119.out 0).trans rfl
        have hcz49_1 : w31.cell? ⟨gb119, 1, none⟩ = some (.string (⟨#[]⟩ : ByteArray)) := (blk_cell BK119.out 1).trans rfl
        have hfz49_0 := blk_frozen BK119.out 0
        have hfz49_1 := blk_frozen BK119.out 1
        have hnb50 := NB110_101.out
        have hnc50 := NB101_110.out
        have hnb51 := NB110_115.out
        have hnc51 := NB115_110.out
        have hcz52_0 : w31.cell? ⟨gb110, 0, none⟩ = some (.int .i64 t107) := (blk_cell BK110.out 0).trans rfl
        have hcz52_1 : w31.cell? ⟨gb110, 1, none⟩ = some (.string t108) := (blk_cell BK110.out 1).trans rfl
        have hfz52_0 := blk_frozen BK110.out 0
        have hfz52_1 := blk_frozen BK110.out 1
        go_wp2_with (first | ((with_reducible refine gate_callee (f := 24) rfl ?_); refine goesL_ (some 33) rfl rfl Try.func24 (by kernel_rfl) rfl #[.agg #[.int .i64 t116, .string t117], .agg #[.int .i64 t107, .string t108]] rfl (by (try simp only [List.map_toArray, List.map_cons, List.map_nil]); first | done | rfl | (simp only [List.length_drop, List.length_take]; rfl)) ?_; (with_reducible refine (laws_eqTable.calls t116 t117 t107 t108 false _ A36.out).mono ?_); rintro e w53 ⟨rfl, hb⟩; refine ⟨_, rfl, ?_⟩; have n0_ := Aside0.mk (Kd.R_below (by (with_reducible repeat (first | apply Kd.R_alloc | apply Kd.R_drewN | apply Kd.R_drew)); exact (Kd.R_mono (Kd.R_far (p := ⟨gb119, 1, none⟩) (Kd.R_far (p := ⟨gb119, 0, none⟩) (Kd.R_types HO106.out BK119.out (by decide)) (fun _ hk => hk.2) (.int .i64 t116)) (fun _ hk => hk.2) (.string t117)) (fun _ h_ => h_.1))) hb); have n1_ := Aside0.mk (Kd.R_below (by (with_reducible repeat (first | apply Kd.R_alloc | apply Kd.R_drewN | apply Kd.R_drew)); exact (Kd.R_mono (Kd.R_far (p := ⟨gb119, 1, none⟩) (Kd.R_far (p := ⟨gb119, 0, none⟩) (Kd.R_types HO114.out BK119.out (by decide)) (fun _ hk => hk.2) (.int .i64 t116)) (fun _ hk => hk.2) (.string t117)) (fun _ h_ => h_.1))) hb); have n2_ := Aside0.mk (blk_below (g := gb101) (o := .cells #[.int .i64 a0_0, .slice A0_1 l0_1.length c0_1] 24 (0, 0)) (by (with_reducible repeat (first | refine blk_drewN ?_ _ | refine blk_drew ?_ | refine blk_alloc ?_ _)); refine blk_far ?_ NB101_119.out _; (with_reducible repeat (first | refine blk_drewN ?_ _ | refine blk_drew ?_ | refine blk_alloc ?_ _)); refine blk_far ?_ NB101_119.out _; (with_reducible repeat (first | refine blk_drewN ?_ _ | refine blk_drew ?_ | refine blk_alloc ?_ _)); exact BK101.out) hb); have n3_ := Aside0.mk (blk_below (g := gb110) (o := .cells #[.int .i64 t107, .string t108] 36 (0, 0)) (by (with_reducible repeat (first | refine blk_drewN ?_ _ | refine blk_drew ?_ | refine blk_alloc ?_ _)); refine blk_far ?_ NB110_119.out _; (with_reducible repeat (first | refine blk_drewN ?_ _ | refine blk_drew ?_ | refine blk_alloc ?_ _)); refine blk_far ?_ NB110_119.out _; (with_reducible repeat (first | refine blk_drewN ?_ _ | refine blk_drew ?_ | refine blk_alloc ?_ _)); exact BK110.out) hb); have n4_ := Aside0.mk (blk_below (g := gb115) (o := .cells #[.int .i64 t111, .slice Ao29 t112.length co29] 29 (0, 0)) (by (with_reducible repeat (first | refine blk_drewN ?_ _ | refine blk_drew ?_ | refine blk_alloc ?_ _)); refine blk_far ?_ NB115_119.out _; (with_reducible repeat (first | refine blk_drewN ?_ _ | refine blk_drew ?_ | refine blk_alloc ?_ _)); refine blk_far ?_ NB115_119.out _; (with_reducible repeat (first | refine blk_drewN ?_ _ | refine blk_drew ?_ | refine blk_alloc ?_ _)); exact BK115.out) hb); have n5_ := Aside0.mk (blk_below (g := gb119) (o := .cells #[.int .i64 t116, .string t117] 36 (0, 0)) (by (with_reducible repeat (first | refine blk_drewN ?_ _ | refine blk_drew ?_ | refine blk_alloc ?_ _)); refine blk_put (cs := #[.int .i64 t116, .string (⟨#[]⟩ : ByteArray)]) ?_ 1 _ rfl; (with_reducible repeat (first | refine blk_drewN ?_ _ | refine blk_drew ?_ | refine blk_alloc ?_ _)); refine blk_put (cs := #[.int .i64 0, .string (⟨#[]⟩ : ByteArray)]) ?_ 0 _ rfl; (with_reducible repeat (first | refine blk_drewN ?_ _ | refine blk_drew ?_ | refine blk_alloc ?_ _)); exact BK119.out) hb); have n6_ := Aside0.mk (below_step (by repeat (first | (with_reducible first | exact HB.out | apply below_alloc | apply pw_below_drewN | apply below_drew1 | refine below_set ?_ GE101.out | refine below_set ?_ GE110.out | refine below_set ?_ GE115.out | refine below_set ?_ GE119.out) | exact HB.out)) hb); clear HO106; clear HO114; clear BK101; clear BK110; clear BK115; clear BK119; clear HB; have HO106 := n0_; have HO114 := n1_; have BK101 := n2_; have BK110 := n3_; have BK115 := n4_; have BK119 := n5_; have HB := n6_; clear n0_ n1_ n2_ n3_ n4_ n5_ n6_; (try clear hb); (try clear hb2); (try clear hk); (try clear hi)))
        go_meet
        case rel => exact ⟨_, (true), (by first | rfl | (simp; done) | (simp [*]; done)), H', ⟨by first | omega | exact Nat.le_refl _⟩, ⟨by (with_reducible repeat (first | apply Kd.R_alloc | apply Kd.R_drewN | apply Kd.R_drew)); exact Kd.R_mono HO114.out (fun _ hk => trivial)⟩, ⟨by (with_reducible repeat (first | refine blk_drewN ?_ _ | refine blk_drew ?_ | refine blk_alloc ?_ _)); exact BK101.out⟩, ⟨by (with_reducible repeat (first | refine blk_drewN ?_ _ | refine blk_drew ?_ | refine blk_alloc ?_ _)); exact BK110.out⟩, ⟨by (with_reducible repeat (first | refine blk_drewN ?_ _ | refine blk_drew ?_ | refine blk_alloc ?_ _)); exact BK115.out⟩, ⟨by (with_reducible repeat (first | refine blk_drewN ?_ _ | refine blk_drew ?_ | refine blk_alloc ?_ _)); exact BK119.out⟩, ⟨by repeat (first | (with_reducible first | exact HB.out | apply below_alloc | apply pw_below_drewN | apply below_drew1 | refine below_set ?_ GE101.out | refine below_set ?_ GE110.out | refine below_set ?_ GE115.out | refine below_set ?_ GE119.out) | exact HB.out)⟩⟩
    case rest =>
      clear HC12
      try clear c1
      try clear c2
      try clear p2
      try clear c3
      try clear c4
      try clear c4b0
      try clear c5
      try clear c15
      try clear c17
      try clear c21
      try clear c22
      try clear c23
      try clear c24
      try clear c26
      try clear c27
      try clear c32
      try clear c33
      try clear c34
      try clear c37
      try clear c38
      try clear c39
      try clear c40
      try clear c42
      try clear c43
      try clear c46
      try clear c47
      try clear c48
      try clear c50
      try clear c51
      try clear hcz14_0
      try clear hcz14_1
      try clear hcz16_0
      try clear hcz16_1
      try clear hcz22_0
      try clear hcz22_1
      try clear hcz23_0
      try clear hcz23_1
      try clear hcz28_0
      try clear hcz28_1
      try clear hcz35_0
      try clear hcz35_1
      try clear hcz41_0
      try clear hcz41_1
      try clear hcz44_0
      try clear hcz44_1
      try clear hcz49_0
      try clear hcz49_1
      try clear hcz52_0
      try clear hcz52_1
      try clear hcz6_0
      try clear hcz6_1
      try clear hfz14_0
      try clear hfz14_1
      try clear hfz16_0
      try clear hfz16_1
      try clear hfz22_0
      try clear hfz22_1
      try clear hfz23_0
      try clear hfz23_1
      try clear hfz28_0
      try clear hfz28_1
      try clear hfz35_0
      try clear hfz35_1
      try clear hfz41_0
      try clear hfz41_1
      try clear hfz44_0
      try clear hfz44_1
      try clear hfz49_0
      try clear hfz49_1
      try clear hfz52_0
      try clear hfz52_1
      try clear hfz6_0
      try clear hfz6_1
      obtain ⟨kq, x39_11, rfl, HA, HJ11, HO_116001, BK101, BK110, BK115, BK119, HB⟩ := hcut
      cases kq with
      | zero => exact absurd HA.out (by simp [laws_FnExactGraphTable.j0])
      | succ kj11 =>
        have H := HA.out
        clear HA
        simp only [laws_FnExactGraphTable.j0] at H
        by_cases c54 : x39_11 = true
        · subst c54
          have H1 : (some false) = some r := by rw [if_pos rfl] at H; exact H
          clear H
          have H := H1
          clear H1
          exact absurd ((Option.some.inj H).trans HT.out) (by decide)
        · replace c54 := Bool.eq_false_iff.mpr c54
          subst c54
          have H1 : ((laws_toGraph.f kj11 a0_0 l0_1).bind fun bt121 => ((laws_eqGraph.f kj11 t111 t112 bt121.1 bt121.2).bind fun t125 => (if t125 = true then (some true) else (some false)))) = some r := by rw [if_neg (show ¬ (false = true) by decide)] at H; exact H
          clear H
          have H := H1
          clear H1
          replace H := Option.bind_eq_some_iff.mp H
          obtain ⟨⟨t121, t122⟩, A550, H⟩ := H
          replace H : ((laws_eqGraph.f kj11 t111 t112 t121 t122).bind fun t125 => (if t125 = true then (some true) else (some false))) = some r := H
          have A55 := Aside0.mk A550
          clear A550
          replace H := Option.bind_eq_some_iff.mp H
          obtain ⟨t125, A560, H⟩ := H
          replace H : (if t125 = true then (some true) else (some false)) = some r := H
          have A56 := Aside0.mk A560
          clear A560
          by_cases c57 : t125 = true
          · subst c57
            have H1 : (some true) = some r := by rw [if_pos rfl] at H; exact H
            clear H
            have H := H1
            clear H1
            obtain rfl := Option.some.inj H
            try go_wp2
            have n0_ := Aside0.mk (Kd.R_drew HO_116001.out)
            have n1_ := Aside0.mk (blk_drew BK101.out)
            have n2_ := Aside0.mk (blk_drew BK110.out)
            have n3_ := Aside0.mk (blk_drew BK115.out)
            have n4_ := Aside0.mk (blk_drew BK119.out)
            have n5_ := Aside0.mk (below_drew1 HB.out)
            clear HO_116001
            clear BK101
            clear BK110
            clear BK115
            clear BK119
            clear HB
            have HO_116001 := n0_
            have BK101 := n1_
            have BK110 := n2_
            have BK115 := n3_
            have BK119 := n4_
            have HB := n5_
            clear n0_ n1_ n2_ n3_ n4_ n5_
            refine start_ (n := 5) (S := fun w' => w'.cell? ⟨gb115, 0, none⟩ = some (.int .i64 t111) ∧ w'.cell? ⟨gb115, 1, none⟩ = some (.slice Ao29 t112.length co29) ∧ w'.cell? ⟨gb101, 0, none⟩ = some (.int .i64 a0_0) ∧ w'.cell? ⟨gb101, 1, none⟩ = some (.slice A0_1 l0_1.length c0_1)) (ds := []) #[false, false, false, false, false] (by kernel_rfl) rfl rfl ⟨(blk_cell BK115.out 0).trans rfl, (blk_cell BK115.out 1).trans rfl, (blk_cell BK101.out 0).trans rfl, (blk_cell BK101.out 1).trans rfl⟩ (fun hHeld => ?_)
            generalize wc.drew = w58 at HO_116001 BK101 BK110 BK115 BK119 HB hHeld ⊢
            refine take_ (i := 0) (N := some 40) (v := ?_) (a' := ?_) #[true, false, false, false, false] rfl rfl (by kernel_rfl) (fun _ _ _ h => h) (Or.inl ⟨by rfl, ?_⟩) hHeld ?_ ?_
            rotate_left
            · rintro w' ⟨s0, s1, s2, s3⟩
              go_simp
              with_reducible rfl
            rotate_left
            · simp only [Act.put, List.setIfInBounds_toArray, List.set_cons_zero, List.set_cons_succ, i64_w, i32_w]
              rfl
            refine take_ (i := 1) (N := some 41) (v := ?_) (a' := ?_) #[true, true, false, false, false] rfl rfl (by kernel_rfl) (fun _ _ _ h => h) (Or.inl ⟨by rfl, ?_⟩) hHeld ?_ ?_
            rotate_left
            · rintro w' ⟨s0, s1, s2, s3⟩
              go_simp
              with_reducible rfl
            rotate_left
            · simp only [Act.put, List.setIfInBounds_toArray, List.set_cons_zero, List.set_cons_succ, i64_w, i32_w]
              rfl
            refine one_ (i := 2) (N := some 42) #[true, true, true, false, false] rfl rfl (by kernel_rfl) (by decide) (fun K hK => ?_)
            refine goes_ Try.func17 (by kernel_rfl) rfl #[.agg #[.int .i64 a0_0, .slice A0_1 l0_1.length c0_1]] (by rfl) rfl rfl (by (try simp only [List.map_toArray, List.map_cons, List.map_nil]); first | done | rfl | (simp only [List.length_drop, List.length_take]; rfl)) ?_
            with_reducible refine (laws_toGraph.calls kj11 a0_0 _ _ l0_1 t121 t122 _ ?side1 ?side2 A55.out).mono ?_
            (case side1 => repeat (first | exact (Kd.C_below HR0_1.out HB.out) | (with_reducible refine Kd.C_alloc ?_ _) | (with_reducible refine Kd.C_drewN ?_ _) | (with_reducible refine Kd.C_drew ?_)))
            (case side2 => exact HC0_1.out)
            rintro e w59 ⟨v123, rfl, ho0, hb⟩
            refine ⟨_, rfl, ?_⟩
            have n0_ := Aside0.mk (Kd.R_elder' (by (with_reducible repeat (first | apply Kd.R_alloc | apply Kd.R_drewN | apply Kd.R_drew)); exact HO_116001.out) (Kd.R_base ho0) hb)
            have n1_ := Aside0.mk (Kd.R_lower (Kd.R_new' ho0 (Kd.R_lt (by (with_reducible repeat (first | apply Kd.R_alloc | apply Kd.R_drewN | apply Kd.R_drew)); exact HO_116001.out))) (below_size (by repeat (first | (with_reducible first | exact HB.out | apply below_alloc | apply pw_below_drewN | apply below_drew1 | refine below_set ?_ GE101.out | refine below_set ?_ GE110.out | refine below_set ?_ GE115.out | refine below_set ?_ GE119.out) | exact HB.out))))
            have n2_ := Aside0.mk (blk_below (g := gb101) (o := .cells #[.int .i64 a0_0, .slice A0_1 l0_1.length c0_1] 24 (0, 0)) (by (with_reducible repeat (first | refine blk_drewN ?_ _ | refine blk_drew ?_ | refine blk_alloc ?_ _)); exact BK101.out) hb)
            have n3_ := Aside0.mk (blk_below (g := gb110) (o := .cells #[.int .i64 t107, .string t108] 36 (0, 0)) (by (with_reducible repeat (first | refine blk_drewN ?_ _ | refine blk_drew ?_ | refine blk_alloc ?_ _)); exact BK110.out) hb)
            have n4_ := Aside0.mk (blk_below (g := gb115) (o := .cells #[.int .i64 t111, .slice Ao29 t112.length co29] 29 (0, 0)) (by (with_reducible repeat (first | refine blk_drewN ?_ _ | refine blk_drew ?_ | refine blk_alloc ?_ _)); exact BK115.out) hb)
            have n5_ := Aside0.mk (blk_below (g := gb119) (o := .cells #[.int .i64 t116, .string t117] 36 (0, 0)) (by (with_reducible repeat (first | refine blk_drewN ?_ _ | refine blk_drew ?_ | refine blk_alloc ?_ _)); exact BK119.out) hb)
            have n6_ := Aside0.mk (below_step (by repeat (first | (with_reducible first | exact HB.out | apply below_alloc | apply pw_below_drewN | apply below_drew1 | refine below_set ?_ GE101.out | refine below_set ?_ GE110.out | refine below_set ?_ GE115.out | refine below_set ?_ GE119.out) | exact HB.out)) hb)
            clear HO_116001
            clear BK101
            clear BK110
            clear BK115
            clear BK119
            clear HB
            have HO_116001 := n0_
            have HO124 := n1_
            have BK101 := n2_
            have BK110 := n3_
            have BK115 := n4_
            have BK119 := n5_
            have HB := n6_
            clear n0_ n1_ n2_ n3_ n4_ n5_ n6_
            (try clear hb)
            (try clear hb2)
            (try clear hk)
            (try clear hi)
            (try clear ho0)
            obtain ⟨Ao60, co60, eo60⟩ := Kd.R_slice HO124.out
            (first | subst eo60 | (injection eo60 with f1_ f2_ f3_; have f4_ := f1_.symm; have f5_ := f3_.symm; clear f1_ f2_ f3_; subst f4_; subst f5_))
            refine hK.out _ _ ⟨(blk_cell BK115.out 0).trans rfl, (blk_cell BK115.out 1).trans rfl, (blk_cell BK101.out 0).trans rfl, (blk_cell BK101.out 1).trans rfl⟩ (fun hHeld => ?_)
            clear hK K
            refine norm_ (a' := ?_) ?_ ?_
            rotate_left
            · show Act.put _ (some 42) _ = _
              simp only [Act.put, List.setIfInBounds_toArray, List.set_cons_zero, List.set_cons_succ, i64_w, i32_w]
              rfl
            refine one_ (i := 3) (N := some 43) #[true, true, true, true, false] rfl rfl (by kernel_rfl) (by decide) (fun K hK => ?_)
            refine goes_ Try.func19 (by kernel_rfl) rfl #[.agg #[.int .i64 t111, .slice Ao29 t112.length co29], .agg #[.int .i64 t121, .slice Ao60 t122.length co60]] (by rfl) rfl rfl (by (try simp only [List.map_toArray, List.map_cons, List.map_nil]); first | done | rfl | (simp only [List.length_drop, List.length_take]; rfl)) ?_
            with_reducible refine (laws_eqGraph.calls kj11 t111 _ _ t112 t121 _ _ t122 true _ ?side1 ?side2 ?side3 ?side4 A56.out).mono ?_
            (case side1 => repeat (first | exact (Kd.R_reads' HO_116001.out).2.2 | (with_reducible refine Kd.C_alloc ?_ _) | (with_reducible refine Kd.C_drewN ?_ _) | (with_reducible refine Kd.C_drew ?_)))
            (case side2 => exact (Kd.R_reads' HO_116001.out).2.1)
            (case side3 => repeat (first | exact (Kd.R_reads' HO124.out).2.2 | (with_reducible refine Kd.C_alloc ?_ _) | (with_reducible refine Kd.C_drewN ?_ _) | (with_reducible refine Kd.C_drew ?_)))
            (case side4 => exact (Kd.R_reads' HO124.out).2.1)
            rintro e w61 ⟨rfl, hb⟩
            refine ⟨_, rfl, ?_⟩
            have n0_ := Aside0.mk (Kd.R_below (by (with_reducible repeat (first | apply Kd.R_alloc | apply Kd.R_drewN | apply Kd.R_drew)); exact HO_116001.out) hb)
            have n1_ := Aside0.mk (Kd.R_below (by (with_reducible repeat (first | apply Kd.R_alloc | apply Kd.R_drewN | apply Kd.R_drew)); exact HO124.out) hb)
            have n2_ := Aside0.mk (blk_below (g := gb101) (o := .cells #[.int .i64 a0_0, .slice A0_1 l0_1.length c0_1] 24 (0, 0)) (by (with_reducible repeat (first | refine blk_drewN ?_ _ | refine blk_drew ?_ | refine blk_alloc ?_ _)); exact BK101.out) hb)
            have n3_ := Aside0.mk (blk_below (g := gb110) (o := .cells #[.int .i64 t107, .string t108] 36 (0, 0)) (by (with_reducible repeat (first | refine blk_drewN ?_ _ | refine blk_drew ?_ | refine blk_alloc ?_ _)); exact BK110.out) hb)
            have n4_ := Aside0.mk (blk_below (g := gb115) (o := .cells #[.int .i64 t111, .slice Ao29 t112.length co29] 29 (0, 0)) (by (with_reducible repeat (first | refine blk_drewN ?_ _ | refine blk_drew ?_ | refine blk_alloc ?_ _)); exact BK115.out) hb)
            have n5_ := Aside0.mk (blk_below (g := gb119) (o := .cells #[.int .i64 t116, .string t117] 36 (0, 0)) (by (with_reducible repeat (first | refine blk_drewN ?_ _ | refine blk_drew ?_ | refine blk_alloc ?_ _)); exact BK119.out) hb)
            have n6_ := Aside0.mk (below_step (by repeat (first | (with_reducible first | exact HB.out | apply below_alloc | apply pw_below_drewN | apply below_drew1 | refine below_set ?_ GE101.out | refine below_set ?_ GE110.out | refine below_set ?_ GE115.out | refine below_set ?_ GE119.out) | exact HB.out)) hb)
            clear HO_116001
            clear HO124
            clear BK101
            clear BK110
            clear BK115
            clear BK119
            clear HB
            have HO_116001 := n0_
            have HO124 := n1_
            have BK101 := n2_
            have BK110 := n3_
            have BK115 := n4_
            have BK119 := n5_
            have HB := n6_
            clear n0_ n1_ n2_ n3_ n4_ n5_ n6_
            (try clear hb)
            (try clear hb2)
            (try clear hk)
            (try clear hi)
            refine hK.out _ _ ⟨(blk_cell BK115.out 0).trans rfl, (blk_cell BK115.out 1).trans rfl, (blk_cell BK101.out 0).trans rfl, (blk_cell BK101.out 1).trans rfl⟩ (fun hHeld => ?_)
            clear hK K
            refine norm_ (a' := ?_) ?_ ?_
            rotate_left
            · show Act.put _ (some 43) _ = _
              simp only [Act.put, List.setIfInBounds_toArray, List.set_cons_zero, List.set_cons_succ, i64_w, i32_w]
              rfl
            refine pure_ (i := 4) (N := some 44) (v := ?_) (a' := ?_) #[true, true, true, true, true] rfl rfl (by kernel_rfl) (fun _ _ _ h => h) (Or.inl ⟨by rfl, ?_⟩) ?_ ?_
            rotate_left
            · intro w'
              go_simp
              with_reducible rfl
            rotate_left
            · simp only [Act.put, List.setIfInBounds_toArray, List.set_cons_zero, List.set_cons_succ, i64_w, i32_w]
              rfl
            refine done_ (by kernel_rfl) ?_
            try go_wp2
            go_ret
            exact ⟨by first | rfl | (simp [errW_none, errW_some] <;> rfl) | (simp [*, errW_none, errW_some] <;> rfl), by repeat (first | (with_reducible first | exact HB.out | apply below_alloc | apply pw_below_drewN | apply below_drew1 | refine below_set ?_ GE101.out | refine below_set ?_ GE110.out | refine below_set ?_ GE115.out | refine below_set ?_ GE119.out) | exact HB.out)⟩
          · replace c57 := Bool.eq_false_iff.mpr c57
            subst c57
            have H1 : (some false) = some r := by rw [if_neg (show ¬ (false = true) by decide)] at H; exact H
            clear H
            have H := H1
            clear H1
            exact absurd ((Option.some.inj H).trans HT.out) (by decide)

end Go.Proofs.Yteagogcpbcickaa.G
/- Plain lemmas about rounds, whole numbers, lists and strings, for the pure statements of this seat. Conditions: each lemma's own hypotheses. -/
set_option linter.unusedSimpArgs false
set_option linter.unusedVariables false
namespace Go.Proofs.Yteagogcpbcickaa.Pure
open Go.RowKit Go.Proofs.YteagogcpbcickaaW.PrintWords Go.Proofs.YteagogcpbcickaaW.PrintLast Go.Proofs.YteagogcpbcickaaW.PrintMore

/-- A loop that goes n rounds from state 0 on and then tells r. -/
theorem rounds {R : Type} (L : Nat → Nat → Option R) (n : Nat) (r : R) (step : ∀ k i, i < n → L (k + 1) i = L k (i + 1)) (stop : ∀ k, L (k + 1) n = some r) : ∀ k, n < k → L k 0 = some r := by
  have h : ∀ d i k, i + d = n → d < k → L k i = some r := by
    intro d
    induction d with
    | zero =>
      intro i k hi hk
      obtain ⟨k, rfl⟩ : ∃ m, k = m + 1 := ⟨k - 1, by omega⟩
      obtain rfl : i = n := by omega
      exact stop k
    | succ d ih =>
      intro i k hi hk
      obtain ⟨k, rfl⟩ : ∃ m, k = m + 1 := ⟨k - 1, by omega⟩
      rw [step k i (by omega)]
      exact ih (i + 1) k (by omega) (by omega)
  exact fun k hk => h n 0 k (by omega) hk
/-- The same where each round, and the end, asks for m rounds more (calls inside). -/
theorem rounds_ {R : Type} (m : Nat) (L : Nat → Nat → Option R) (n : Nat) (r : R) (step : ∀ k i, m ≤ k → i < n → L (k + 1) i = L k (i + 1)) (stop : ∀ k, m ≤ k → L (k + 1) n = some r) : ∀ k, n + m < k → L k 0 = some r := by
  have h : ∀ d i k, i + d = n → d + m < k → L k i = some r := by
    intro d
    induction d with
    | zero =>
      intro i k hi hk
      obtain ⟨k, rfl⟩ : ∃ m, k = m + 1 := ⟨k - 1, by omega⟩
      obtain rfl : i = n := by omega
      exact stop k (by omega)
    | succ d ih =>
      intro i k hi hk
      obtain ⟨k, rfl⟩ : ∃ m, k = m + 1 := ⟨k - 1, by omega⟩
      rw [step k i (by omega) (by omega)]
      exact ih (i + 1) k (by omega) (by omega)
  exact fun k hk => h n 0 k (by omega) hk
/-- A loop that goes on while p holds: where it ends, and with how many rounds left. -/
theorem rounds_to {R : Type} (L : Nat → Nat → R) (n : Nat) (p : Nat → Bool) (S E : Nat → R) (step : ∀ k i, i < n → (∀ j, j < i → p j = true) → p i = true → L (k + 1) i = L k (i + 1))
    (exit : ∀ k i, i < n → (∀ j, j < i → p j = true) → p i = false → L (k + 1) i = E k) (stop : ∀ k, (∀ j, j < n → p j = true) → L (k + 1) n = S k) :
    ∀ k, n < k → ∃ j, k - n - 1 ≤ j ∧ j < k ∧ L k 0 = if (List.range n).all p then S j else E j := by
  have h : ∀ d i k, i + d = n → d < k → (∀ j, j < i → p j = true) → ∃ j, k - d - 1 ≤ j ∧ j < k ∧ L k i = if (List.range n).all p then S j else E j := by
    intro d
    induction d with
    | zero =>
      intro i k hi hk hp
      obtain ⟨k, rfl⟩ : ∃ m, k = m + 1 := ⟨k - 1, by omega⟩
      obtain rfl : i = n := by omega
      refine ⟨k, by omega, by omega, ?_⟩
      rw [stop k hp, if_pos (List.all_eq_true.2 fun x hx => hp x (by simpa using hx))]
    | succ d ih =>
      intro i k hi hk hp
      obtain ⟨k, rfl⟩ : ∃ m, k = m + 1 := ⟨k - 1, by omega⟩
      cases hpi : p i with
      | true =>
        obtain ⟨j, h1, h2, h3⟩ := ih (i + 1) k (by omega) (by omega) (fun j hj => by
          rcases Nat.eq_or_lt_of_le (Nat.lt_succ_iff.1 hj) with e | e
          · exact e ▸ hpi
          · exact hp j e)
        exact ⟨j, by omega, by omega, (step k i (by omega) hp hpi).trans h3⟩
      | false =>
        refine ⟨k, by omega, by omega, ?_⟩
        rw [exit k i (by omega) hp hpi, if_neg (fun ha => by have := List.all_eq_true.1 ha i (by simp; omega); rw [hpi] at this; cases this)]
  exact fun k hk => h n 0 k (by omega) hk (fun j hj => absurd hj (by omega))
/-- A search that ends with one of two answers. -/
theorem rounds_pre {R : Type} (L : Nat → Nat → Option R) (n : Nat) (p : Nat → Bool) (r bad : R) (step : ∀ k i, i < n → (∀ j, j < i → p j = true) → p i = true → L (k + 1) i = L k (i + 1))
    (exit : ∀ k i, i < n → (∀ j, j < i → p j = true) → p i = false → L (k + 1) i = some bad) (stop : ∀ k, (∀ j, j < n → p j = true) → L (k + 1) n = some r) :
    ∀ k, n < k → L k 0 = some (if (List.range n).all p then r else bad) := by
  intro k hk
  obtain ⟨j, _, _, h⟩ := rounds_to L n p (fun _ => some r) (fun _ => some bad) step exit stop k hk
  rw [h]
  split <;> rfl
theorem w64 {n : Int} (h0 : -9223372036854775808 ≤ n) (h1 : n ≤ 9223372036854775807) : wrap64 n = n := by
  unfold wrap64
  omega
theorem w64s (i : Nat) (h : i < 4611686018427387904) : wrap64 ((i : Int) + 1) = ((i + 1 : Nat) : Int) := by
  rw [w64 (by omega) (by omega)]
  omega
theorem wfi {a : Int} (h : (Lit.int .i64 a).wf = true) : -9223372036854775808 ≤ a ∧ a ≤ 9223372036854775807 := by
  have hmin : IntKind.i64.min = -9223372036854775808 := rfl
  have hmax : IntKind.i64.max = 9223372036854775807 := rfl
  simp only [Lit.wf, Bool.and_eq_true, decide_eq_true_eq] at h
  omega
theorem u64_of {a : Int} (h0 : 0 ≤ a) (h1 : a ≤ 18446744073709551615) : IntKind.u64.wrap a = a := by
  have h : IntKind.u64.wrap a = a % 18446744073709551616 := by
    simp [IntKind.wrap, IntKind.bits, IntKind.signed]
  rw [h]
  omega

/-! lists -/
theorem rd_nat (xs : List Int) (i : Nat) : rd xs (i : Int) = xs.getD i 0 := by unfold rd; simp
theorem rdOf_nat {α : Type} (d : α) (xs : List α) (i : Nat) : rdOf d xs (i : Int) = xs.getD i d := by unfold rdOf; simp
theorem getD_lt {α : Type} (xs : List α) (i : Nat) (d : α) (h : i < xs.length) : xs.getD i d = xs[i] := by
  rw [List.getD_eq_getElem?_getD, List.getElem?_eq_getElem h]
  rfl
theorem take_succ_getD {α : Type} (xs : List α) (i : Nat) (d : α) (h : i < xs.length) : xs.take (i + 1) = xs.take i ++ [xs.getD i d] := by
  rw [List.take_succ_eq_append_getElem h, getD_lt xs i d h]
/-- What is written from the front on. -/
theorem set_front {α : Type} (p l : List α) (i : Nat) (v : α) (hl : p.length = l.length) (h : i < l.length) (hv : p[i]? = some v) : (p.take i ++ l.drop i).set i v = p.take (i + 1) ++ l.drop (i + 1) := by
  apply List.ext_getElem?
  intro j
  by_cases hj : j = i
  · subst hj
    rw [List.getElem?_set_self (by simp; omega), List.getElem?_append_left (by simp; omega), List.getElem?_take_of_lt (by omega), hv]
  · rw [List.getElem?_set_ne (by omega)]
    rcases Nat.lt_or_ge j i with h1 | h1
    · rw [List.getElem?_append_left (by simp; omega), List.getElem?_append_left (by simp; omega), List.getElem?_take_of_lt (by omega), List.getElem?_take_of_lt (by omega)]
    · rw [List.getElem?_append_right (by simp; omega), List.getElem?_append_right (by simp; omega)]
      simp only [List.length_take, List.getElem?_drop]
      congr 1
      omega

/-! strings -/
theorem bt_nat (s : ByteArray) (i : Nat) (h : i < s.size) : bt s (i : Int) = (s[i].toNat : Int) := by
  unfold bt
  simp [h]
theorem toList_data (s : ByteArray) : s.toList = s.data.toList := ByteArray.toList_eq s
end Go.Proofs.Yteagogcpbcickaa.Pure
/- What holds with enough rounds: small words for it. Conditions: each lemma's own hypotheses. -/
set_option linter.unusedSimpArgs false
set_option linter.unusedVariables false
namespace Go.Proofs.Yteagogcpbcickaa.Pure
open Go.RowKit Go.Proofs.YteagogcpbcickaaW.PrintWords Go.Proofs.YteagogcpbcickaaW.PrintLast Go.Proofs.YteagogcpbcickaaW.PrintMore

theorem ev_some {α : Type} (r : α) : Ev (fun _ => some r) r := ⟨0, fun _ _ => rfl⟩
theorem ev_ge {α : Type} {g : Nat → Option α} {r : α} (n : Nat) (h : ∀ k, n < k → g k = some r) : Ev g r := ⟨n + 1, fun k hk => h k (by omega)⟩
theorem ev_step {α : Type} {g f : Nat → Option α} {r : α} (h : ∀ k, g (k + 1) = f k) (e : Ev f r) : Ev g r := by
  obtain ⟨K, e⟩ := e
  refine ⟨K + 1, fun k hk => ?_⟩
  obtain ⟨m, rfl⟩ : ∃ m, k = m + 1 := ⟨k - 1, by omega⟩
  rw [h m]
  exact e m (by omega)
theorem ev_eq {α : Type} {g f : Nat → Option α} {r : α} (h : ∀ k, g k = f k) (e : Ev f r) : Ev g r := by
  obtain ⟨K, e⟩ := e
  exact ⟨K, fun k hk => (h k).trans (e k hk)⟩
theorem ev_bind {α β : Type} {g : Nat → Option α} {f : Nat → α → Option β} {a : α} {r : β} (h : Ev g a) (e : Ev (fun n => f n a) r) : Ev (fun n => (g n).bind (f n)) r := by
  obtain ⟨K, h⟩ := h
  obtain ⟨M, e⟩ := e
  refine ⟨K + M, fun n hn => ?_⟩
  show (g n).bind (f n) = some r
  rw [h n (by omega)]
  exact e n (by omega)
theorem ev_rounds {α : Type} {g : Nat → Option α} {r : α} (h : Ev g r) : ∃ k, g k = some r := by
  obtain ⟨K, h⟩ := h
  exact ⟨K, h K (Nat.le_refl _)⟩
/-- Two answers of one thing are the same. -/
theorem ev_one {α : Type} {g : Nat → Option α} {a b : α} (h : Ev g a) (e : Ev g b) : a = b := by
  obtain ⟨K, h⟩ := h
  obtain ⟨M, e⟩ := e
  exact Option.some.inj ((h (K + M) (by omega)).symm.trans (e (K + M) (by omega)))
/-- A loop that goes from i on to n, and then as its end tells. -/
theorem ev_loop {α : Type} (L : Nat → Nat → Option α) (n : Nat) (r : α) (step : ∀ i, i < n → Ev (fun k => L k (i + 1)) r → Ev (fun k => L k i) r) (stop : Ev (fun k => L k n) r) : ∀ i, i ≤ n → Ev (fun k => L k i) r := by
  have h : ∀ d i, i + d = n → Ev (fun k => L k i) r := by
    intro d
    induction d with
    | zero =>
      intro i hi
      obtain rfl : i = n := by omega
      exact stop
    | succ d ih => intro i hi; exact step i (by omega) (ih (i + 1) (by omega))
  exact fun i hi => h (n - i) i (by omega)
end Go.Proofs.Yteagogcpbcickaa.Pure
/- Graphs: copies, comparisons, and which are right. Conditions: each lemma's own hypotheses. -/
set_option linter.unusedSimpArgs false
set_option linter.unusedVariables false
namespace Go.Proofs.Yteagogcpbcickaa.Pure
open Go.RowKit Go.Proofs.Yteagogcpbcickaa.G Go.Proofs.YteagogcpbcickaaW.PrintWords Go.Proofs.YteagogcpbcickaaW.PrintLast Go.Proofs.YteagogcpbcickaaW.PrintMore

/-- A statement's own list of ands as the program's. -/
def cvA (l : List S116) : List S79 := l.map fun x => ⟨x.f0, x.f1⟩
theorem cvA_length (l : List S116) : (cvA l).length = l.length := by simp [cvA]
def WfA (L : List S79) : Prop := ∀ x ∈ L, (Lit.int .i64 x.f0).wf = true ∧ (Lit.int .i64 x.f1).wf = true
theorem cvA_wf {l : List S116} (h : ∀ x_ ∈ l, ((Lit.int .i64 x_.f0).wf = true ∧ (Lit.int .i64 x_.f1).wf = true)) : WfA (cvA l) := by
  intro x hx
  simp only [cvA, List.mem_map] at hx
  obtain ⟨y, hy, rfl⟩ := hx
  exact h y hy
theorem rdA_nat (L : List S79) (i : Nat) : rd_T79 L (i : Int) = L.getD i z79 := by unfold rd_T79; simp
theorem rdL_nat (L : List S116) (i : Nat) : rd_T116 L (i : Int) = L.getD i z116 := by unfold rd_T116; simp
theorem rdA_wf {L : List S79} (h : WfA L) {i : Nat} (hi : i < L.length) : (Lit.int .i64 (rd_T79 L i).f0).wf = true ∧ (Lit.int .i64 (rd_T79 L i).f1).wf = true := by
  rw [rdA_nat, getD_lt L i _ hi]
  exact h _ (List.getElem_mem hi)
theorem toAndS_eq (l : List S116) (hl : l.length ≤ 1099511627776) : ∀ k, l.length < k → laws_toAndS.f k l = some (cvA l) := by
  intro k hk
  unfold laws_toAndS.f
  rw [if_pos (by omega), if_pos (by omega), Int.toNat_natCast]
  have h := rounds (fun k i => laws_toAndS.l0 k l ((cvA l).take i ++ (List.replicate l.length z79).drop i) (i : Int)) l.length (cvA l) ?_ ?_ k hk
  · simpa using h
  · intro k i hi
    simp only [laws_toAndS.l0, laws_toAnd.f]
    rw [if_pos (by omega), if_pos (by omega), Option.bind_some, if_pos (by simp [cvA]; omega), rdL_nat, w64s i (by omega), Int.toNat_natCast, getD_lt l i _ hi, set_front (cvA l) (List.replicate l.length z79) i _ (by simp [cvA]) (by simpa using hi) (by simp [cvA, hi])]
  · intro k
    simp only [laws_toAndS.l0]
    rw [if_neg (by omega), List.take_of_length_le (by simp [cvA])]
    simp
theorem toGraph_eq (a : Int) (l : List S116) (hl : l.length ≤ 1099511627776) : ∀ k, l.length < k → laws_toGraph.f k a l = some (a, cvA l) := by
  intro k hk
  unfold laws_toGraph.f
  rw [toAndS_eq l hl k hk, Option.bind_some]
theorem eqAndS_self (l : List S79) (hl : l.length ≤ 1099511627776) : ∀ k, l.length < k → laws_eqAndS.f k l l = some true := by
  intro k hk
  unfold laws_eqAndS.f
  rw [if_pos rfl]
  refine rounds (fun k i => laws_eqAndS.l0 k l l (i : Int)) l.length true ?_ ?_ k hk
  · intro k i hi
    simp only [laws_eqAndS.l0, laws_eqAnd.f, if_true, Option.bind_some]
    rw [if_pos (by omega), if_pos (by omega), if_pos (by omega), w64s i (by omega)]
  · intro k
    simp only [laws_eqAndS.l0]
    rw [if_neg (by omega)]
theorem eqGraph_self (a : Int) (l : List S79) (hl : l.length ≤ 1099511627776) : ∀ k, l.length < k → laws_eqGraph.f k a l a l = some true := by
  intro k hk
  unfold laws_eqGraph.f
  rw [if_pos rfl, eqAndS_self l hl k hk, Option.bind_some, if_pos rfl]
theorem szGraph_eq (a : Int) (l : List S116) (hl : l.length ≤ maxLen) : laws_szGraph.f a l 1048576 = some (if (l.length : Int) > 1048576 then -1 else 1048576 - (l.length : Int)) := by
  unfold laws_szGraph.f laws_szAndS.f
  unfold maxLen at hl
  rw [w64 (by omega) (by omega)]
  split
  · rw [Option.bind_some, if_pos (by decide), if_pos (by omega)]
  · rw [Option.bind_some, if_neg (by omega), if_neg (by omega)]

theorem and_ext {x y : S79} (h0 : x.f0 = y.f0) (h1 : x.f1 = y.f1) : x = y := by cases x; cases y; simp_all
theorem mem_take_rd (L : List S79) (i : Nat) (hi : i ≤ L.length) (x : S79) : x ∈ L.take i ↔ ∃ j, j < i ∧ rd_T79 L (j : Int) = x := by
  rw [List.mem_iff_getElem]
  constructor
  · rintro ⟨j, hj, rfl⟩
    have hj' : j < i := by simp at hj; omega
    exact ⟨j, hj', by rw [rdA_nat, getD_lt L j _ (by omega)]; simp⟩
  · rintro ⟨j, hj, rfl⟩
    exact ⟨j, by simp; omega, by rw [rdA_nat, getD_lt L j _ (by omega)]; simp⟩
/-- The search for a node that stood there already. -/
theorem spec_l1_ev (ins : Int) (L : List S79) (hl : L.length ≤ 3000) (i : Nat) (hi : i < L.length) (r : Bool) (bad : rd_T79 L (i : Int) ∈ L.take i → r = false)
    (go : rd_T79 L (i : Int) ∉ L.take i → Ev (fun k => spec_GraphOk.l0 k ((i + 1 : Nat) : Int) ins L) r) : Ev (fun k => spec_GraphOk.l1 k (i : Int) 0 ins L) r := by
  have h : ∀ d j, j + d = i → (∀ q, q < j → rd_T79 L (q : Int) ≠ rd_T79 L (i : Int)) → Ev (fun k => spec_GraphOk.l1 k (i : Int) (j : Int) ins L) r := by
    intro d
    induction d with
    | zero =>
      intro j hj hq
      obtain rfl : j = i := by omega
      refine ev_step (f := fun k => spec_GraphOk.l0 k ((j + 1 : Nat) : Int) ins L) (fun k => ?_) (go (fun hm => ?_))
      · simp only [spec_GraphOk.l1]
        rw [if_neg (by omega), w64s j (by omega)]
      · obtain ⟨q, h1, h2⟩ := (mem_take_rd L j (by omega) _).1 hm
        exact hq q h1 h2
    | succ d ih =>
      intro j hj hq
      by_cases he : rd_T79 L (j : Int) = rd_T79 L (i : Int)
      · rw [bad ((mem_take_rd L i (by omega) _).2 ⟨j, by omega, he⟩)]
        refine ev_step (f := fun k => some false) (fun k => ?_) (ev_some _)
        simp only [spec_GraphOk.l1]
        rw [if_pos (by omega), if_pos (by omega), if_pos (by omega), if_pos (by omega), if_pos (by omega), if_pos (by rw [he]; simp)]
      · refine ev_step (f := fun k => spec_GraphOk.l1 k (i : Int) ((j + 1 : Nat) : Int) ins L) (fun k => ?_) (ih (j + 1) (by omega) (fun q hq' => ?_))
        · simp only [spec_GraphOk.l1]
          rw [if_pos (by omega), if_pos (by omega), if_pos (by omega), if_pos (by omega), if_pos (by omega), if_neg (fun hh => he ?_), w64s j (by omega)]
          simp only [Bool.and_eq_true, beq_iff_eq] at hh
          exact and_ext hh.1 hh.2
        · rcases Nat.lt_succ_iff_lt_or_eq.1 hq' with h1 | rfl
          · exact hq q h1
          · exact he
  have := h i 0 (by omega) (fun q hq => by omega)
  exact this
theorem tdiv2 {x : Int} (h : (Lit.int .i64 x).wf = true) : wrap64 (Int.tdiv x 2) = Int.tdiv x 2 := by
  have := wfi h
  have h2 : -9223372036854775808 ≤ Int.tdiv x 2 ∧ Int.tdiv x 2 ≤ 9223372036854775807 := by
    rw [Int.tdiv_eq_ediv]
    have h2 : Int.sign 2 = 1 := rfl
    split <;> omega
  exact w64 h2.1 h2.2
theorem spec_GraphOk_ev (ins : Int) (L : List S79) (hL : WfA L) (hins : (Lit.int .i64 ins).wf = true) : Ev (fun k => spec_GraphOk.f k ins L) (decide (GOk ins L)) := by
  have hj0t : ∀ b : Bool, b = true → ¬ GOk ins L → Ev (fun k => spec_GraphOk.j0 k b ins L) (decide (GOk ins L)) := by
    intro b hb hG
    rw [decide_eq_false hG]
    refine ev_step (f := fun _ => some false) (fun k => ?_) (ev_some _)
    simp only [spec_GraphOk.j0]
    rw [if_pos hb]
  refine ev_eq (f := fun k => if 0 ≤ ins ∧ ins ≤ 12 then spec_GraphOk.j0 k (decide ((L.length : Int) > 3000)) ins L else spec_GraphOk.j0 k true ins L) (fun k => ?_) ?_
  · unfold spec_GraphOk.f spec_l01In.f
    by_cases h0 : ins ≥ 0
    · rw [if_pos h0, Option.bind_some]
      by_cases h1 : ins ≤ 12
      · rw [if_pos (by simpa using h1), if_pos ⟨h0, h1⟩]
      · rw [if_neg (by simpa using h1), if_neg (fun h => h1 h.2)]
    · rw [if_neg h0, Option.bind_some, if_neg (by decide), if_neg (fun h => h0 h.1)]
  by_cases hin : 0 ≤ ins ∧ ins ≤ 12
  · simp only [if_pos hin]
    by_cases hlen : L.length ≤ 3000
    · rw [show decide ((L.length : Int) > 3000) = false from decide_eq_false (by omega)]
      refine ev_step (f := fun k => spec_GraphOk.l0 k ((0 : Nat) : Int) ins L) (fun k => by simp only [spec_GraphOk.j0]; rw [if_neg (by decide)]; rfl) ?_
      have hok : ∀ d i, i + d = L.length → (∀ j, j < i → okAnd ins L j) → Ev (fun k => spec_GraphOk.l0 k (i : Int) ins L) (decide (GOk ins L)) := by
        intro d
        induction d with
        | zero =>
          intro i hi hall
          rw [decide_eq_true (show GOk ins L from ⟨hin, hlen, fun j hj => hall j (by omega)⟩)]
          refine ev_step (f := fun _ => some true) (fun k => ?_) (ev_some _)
          simp only [spec_GraphOk.l0]
          rw [if_neg (by omega)]
        | succ d ih =>
          intro i hi hall
          have hlt : i < L.length := by omega
          obtain ⟨w0, w1⟩ := rdA_wf hL hlt
          have b0 := wfi w0
          have b1 := wfi w1
          have t0 := tdiv2 w0
          have t1 := tdiv2 w1
          have hq : wrap64 (ins + (i : Int)) = ins + i := w64 (by omega) (by omega)
          have bad : ¬ okAnd ins L i → Ev (fun k => spec_GraphOk.j2 k (i : Int) true ins L) (decide (GOk ins L)) := by
            intro hn
            rw [decide_eq_false (fun h : GOk ins L => hn (h.2.2 i hlt))]
            refine ev_step (f := fun _ => some false) (fun k => ?_) (ev_some _)
            simp only [spec_GraphOk.j2]
            rw [if_pos trivial]
          by_cases c1 : (rd_T79 L (i : Int)).f0 < 2
          · refine ev_step (fun k => ?_) (bad (fun h => h.1 c1))
            simp only [spec_GraphOk.l0]
            rw [if_pos (by omega), if_pos (by omega), if_pos c1]
          by_cases c2 : (rd_T79 L (i : Int)).f1 ≤ (rd_T79 L (i : Int)).f0
          · refine ev_step (fun k => ?_) (bad (fun h => h.2.1 c2))
            simp only [spec_GraphOk.l0]
            rw [if_pos (by omega), if_pos (by omega), if_neg c1, if_pos c2]
          have e0 : Int.tdiv (rd_T79 L (i : Int)).f0 2 = (rd_T79 L (i : Int)).f0 / 2 := Int.tdiv_eq_ediv_of_nonneg (by omega)
          have e1 : Int.tdiv (rd_T79 L (i : Int)).f1 2 = (rd_T79 L (i : Int)).f1 / 2 := Int.tdiv_eq_ediv_of_nonneg (by omega)
          by_cases c3 : wrap64 (Int.tdiv (rd_T79 L (i : Int)).f1 2) > wrap64 (ins + (i : Int))
          · refine ev_step (fun k => ?_) (bad (fun h => by
              have := h.2.2.2.1
              rw [t1, e1, hq] at c3
              omega))
            simp only [spec_GraphOk.l0]
            rw [if_pos (by omega), if_pos (by omega), if_neg c1, if_neg c2, if_pos c3]
          have c3' : (rd_T79 L (i : Int)).f1 < 2 * (ins + 1 + i) := by rw [t1, e1, hq] at c3; omega
          have hl0 : ∀ k, spec_GraphOk.l0 (k + 1) (i : Int) ins L = spec_GraphOk.j2 k (i : Int) (wrap64 (Int.tdiv (rd_T79 L (i : Int)).f1 2) == wrap64 (Int.tdiv (rd_T79 L (i : Int)).f0 2)) ins L := by
            intro k
            simp only [spec_GraphOk.l0]
            rw [if_pos (by omega), if_pos (by omega), if_neg c1, if_neg c2, if_neg c3]
          refine ev_step hl0 ?_
          by_cases c4 : wrap64 (Int.tdiv (rd_T79 L (i : Int)).f1 2) = wrap64 (Int.tdiv (rd_T79 L (i : Int)).f0 2)
          · rw [beq_iff_eq.2 c4]
            exact bad (fun h => h.2.2.1 c4.symm)
          · rw [beq_eq_false_iff_ne.2 c4]
            refine ev_step (f := fun k => spec_GraphOk.l1 k (i : Int) 0 ins L) (fun k => by simp only [spec_GraphOk.j2]; rw [if_neg (by decide)]) ?_
            refine spec_l1_ev ins L hlen i hlt _ (fun hm => ?_) (fun hm => ih (i + 1) (by omega) (fun j hj => ?_))
            · exact decide_eq_false (fun h : GOk ins L => (h.2.2 i hlt).2.2.2.2 hm)
            · rcases Nat.lt_succ_iff_lt_or_eq.1 hj with h1 | rfl
              · exact hall j h1
              · exact ⟨c1, c2, fun h => c4 h.symm, c3', hm⟩
      exact hok L.length 0 (by omega) (fun j hj => by omega)
    · exact hj0t _ (decide_eq_true (by omega)) (fun h => hlen h.2.1)
  · simp only [if_neg hin]
    exact hj0t _ rfl (fun h => hin h.1)
end Go.Proofs.Yteagogcpbcickaa.Pure
/- What the statements' own helpers answer (copies, comparisons, marks), as plain equations. Conditions: each lemma's own hypotheses. -/

set_option linter.unusedSimpArgs false
set_option linter.unusedVariables false
namespace Go.Proofs.Yteagogcpbcickaa.Pure
open Go.RowKit Go.Proofs.Yteagogcpbcickaa.G Go.Proofs.YteagogcpbcickaaW.PrintWords Go.Proofs.YteagogcpbcickaaW.PrintLast Go.Proofs.YteagogcpbcickaaW.PrintMore

end Go.Proofs.Yteagogcpbcickaa.Pure
/- Tables as lists of flags: what the program and the reference take for a right table. Conditions: each lemma's own hypotheses. -/
set_option linter.unusedSimpArgs false
set_option linter.unusedVariables false
namespace Go.Proofs.Yteagogcpbcickaa.Pure
open Go.RowKit Go.Proofs.Yteagogcpbcickaa.G Go.Proofs.YteagogcpbcickaaW.PrintWords Go.Proofs.YteagogcpbcickaaW.PrintLast Go.Proofs.YteagogcpbcickaaW.PrintMore

/-- A search over rounds: it ends at the first round that fails. -/
theorem rounds_all {R : Type} (L : Nat → Nat → Option R) (n : Nat) (p : Nat → Bool) (r bad : R) (step : ∀ k i, i < n → p i = true → L (k + 1) i = L k (i + 1)) (exit : ∀ k i, i < n → p i = false → L (k + 1) i = some bad)
    (stop : ∀ k, L (k + 1) n = some r) : ∀ k, n < k → L k 0 = some (if (List.range n).all p then r else bad) :=
  rounds_pre L n p r bad (fun k i hi _ hp => step k i hi hp) (fun k i hi _ hp => exit k i hi hp) (fun k _ => stop k)

/-! ### tables -/
def sgn (b : Bool) : Int := if b then 49 else 48
def ones (l : List Bool) : ByteArray := ⟨(l.map fun b => if b then (49 : UInt8) else 48).toArray⟩
theorem ones_size (l : List Bool) : (ones l).size = l.length := by
  show (l.map fun b => if b then (49 : UInt8) else 48).toArray.size = _
  simp
theorem bt_ones (l : List Bool) (i : Nat) (h : i < l.length) : bt (ones l) (i : Int) = sgn (l.getD i false) := by
  have hs : i < (ones l).size := by rw [ones_size]; exact h
  rw [bt_nat _ i hs, getD_lt l i false h]
  have e : (ones l)[i] = if l[i] then (49 : UInt8) else 48 := by
    have h1 : (ones l).data.toList[i]? = some (ones l)[i] := by
      rw [List.getElem?_eq_getElem (by simpa using hs)]
      rfl
    have h2 : (ones l).data.toList[i]? = some (if l[i] then (49 : UInt8) else 48) := by simp [ones, h]
    exact Option.some.inj (h1.symm.trans h2)
  rw [e]
  unfold sgn
  cases l[i] <;> rfl
theorem ones_inj {a b : List Bool} (h : ones a = ones b) : a = b := by
  unfold ones at h
  injection h with h
  have h2 : (a.map fun b => if b then (49 : UInt8) else 48) = b.map fun b => if b then (49 : UInt8) else 48 := by simpa using congrArg Array.toList h
  exact List.map_inj_right (fun x y hxy => by revert hxy; cases x <;> cases y <;> decide) |>.1 h2
theorem data_inj {a b : ByteArray} (h : a.data.toList = b.data.toList) : a = b := by
  cases a; cases b
  simp only [ByteArray.mk.injEq]
  exact Array.toList_inj.1 h
theorem toList_inj {a b : ByteArray} : a.toList = b.toList ↔ a = b := by
  rw [toList_data, toList_data]
  exact ⟨data_inj, fun h => h ▸ rfl⟩
theorem strOfNums_ones (l : List Bool) : strOfNums (l.map sgn) = ones l := by
  unfold strOfNums ones
  congr 2
  rw [List.map_map]
  refine List.map_congr_left fun b _ => ?_
  cases b <;> rfl
def tok (N : Int) (s : ByteArray) : Bool := decide (0 ≤ N ∧ N ≤ 12 ∧ (s.size : Int) = 2 ^ N.toNat) && (List.range s.size).all fun (i : Nat) => bt s (i : Int) == 48 || bt s (i : Int) == 49
theorem tok_form {N : Int} {s : ByteArray} (h : tok N s = true) : ∃ (n : Nat) (l : List Bool), N = (n : Int) ∧ n ≤ 12 ∧ l.length = 2 ^ n ∧ s = ones l := by
  unfold tok at h
  simp only [Bool.and_eq_true, decide_eq_true_eq] at h
  obtain ⟨⟨h0, h1, h2⟩, h3⟩ := h
  obtain ⟨n, rfl⟩ := Int.eq_ofNat_of_zero_le h0
  have h2' : s.size = 2 ^ n := by
    rw [Int.toNat_natCast] at h2
    exact_mod_cast h2
  refine ⟨n, (List.range s.size).map fun (i : Nat) => decide (bt s (i : Int) = 49), rfl, by omega, by simp [h2'], ?_⟩
  apply data_inj
  apply List.ext_getElem?
  intro i
  rcases Nat.lt_or_ge i s.size with hi | hi
  · have hb := List.all_eq_true.1 h3 i (by simpa using hi)
    have e : s.data.toList[i]? = some s[i] := by
      rw [List.getElem?_eq_getElem (by simpa using hi)]
      rfl
    rw [e]
    have hv := bt_nat s i hi
    simp only [ones, List.map_map, List.getElem?_map, List.getElem?_range hi, Option.map_some, Function.comp]
    congr 1
    simp only [Bool.or_eq_true, beq_iff_eq] at hb
    have hd : ∀ c : UInt8, ((c.toNat : Int) = 48 → c = 48) ∧ ((c.toNat : Int) = 49 → c = 49) := fun c => ⟨fun h => UInt8.toNat_inj.1 (by have : c.toNat = 48 := by omega
                                                                                                                                         rw [this]; rfl), fun h => UInt8.toNat_inj.1 (by have : c.toNat = 49 := by omega
                                                                                                                                                                                         rw [this]; rfl)⟩
    rcases hb with hb | hb
    · have hc := (hd s[i]).1 (hv ▸ hb)
      simp [hb, hc]
    · have hc := (hd s[i]).2 (hv ▸ hb)
      simp [hb, hc]
  · rw [List.getElem?_eq_none (by simpa using hi), List.getElem?_eq_none (by simp [ones]; exact hi)]
theorem tok_ones {n : Nat} {l : List Bool} (hn : n ≤ 12) (hl : l.length = 2 ^ n) : tok (n : Int) (ones l) = true := by
  unfold tok
  rw [Bool.and_eq_true]
  refine ⟨decide_eq_true ⟨by omega, by omega, ?_⟩, List.all_eq_true.2 fun i hi => ?_⟩
  · rw [ones_size, hl, Int.toNat_natCast]
    norm_cast
  · have hi' : i < l.length := by rw [ones_size] at hi; simpa using hi
    rw [bt_ones l i hi']
    unfold sgn
    cases l.getD i false <;> rfl
theorem pow12 {n : Nat} (hn : n ≤ 12) : 2 ^ n ≤ 4096 := Nat.pow_le_pow_right (by decide) hn
theorem pow62 {n : Nat} (hn : n ≤ 61) : (2 : Int) ^ n ≤ 2305843009213693952 := by
  have h : 2 ^ n ≤ 2 ^ 61 := Nat.pow_le_pow_right (by decide) hn
  have h2 : ((2 ^ n : Nat) : Int) ≤ ((2 ^ 61 : Nat) : Int) := by exact_mod_cast h
  have h3 : ((2 ^ n : Nat) : Int) = (2 : Int) ^ n := by norm_cast
  omega
theorem pow_pos_ (n : Nat) : (1 : Int) ≤ 2 ^ n := by
  have h : 1 ≤ 2 ^ n := Nat.one_le_two_pow
  have h2 : ((1 : Nat) : Int) ≤ ((2 ^ n : Nat) : Int) := by exact_mod_cast h
  have h3 : ((2 ^ n : Nat) : Int) = (2 : Int) ^ n := by norm_cast
  omega
theorem pow2_eq (n : Nat) (hn : n ≤ 60) : ∀ k, n < k → spec_l01Pow2.f k (n : Int) = some ((2 : Int) ^ n) := by
  intro k hk
  unfold spec_l01Pow2.f
  refine rounds (fun k i => spec_l01Pow2.l0 k (n : Int) ((2 : Int) ^ i) (i : Int)) n _ ?_ ?_ k hk
  · intro k i hi
    simp only [spec_l01Pow2.l0]
    have h1 := pow62 (n := i + 1) (by omega)
    have h2 := pow_pos_ i
    rw [if_pos (by omega), w64s i (by omega), show (2 : Int) * 2 ^ i = 2 ^ (i + 1) from by rw [Int.pow_succ]; omega, w64 (by have := pow_pos_ (i + 1); omega) (by omega)]
  · intro k
    simp only [spec_l01Pow2.l0]
    rw [if_neg (by omega)]
theorem shl_eq (n : Nat) (hn : n ≤ 60) : shl .i64 1 (n : Int) = (2 : Int) ^ n := by
  unfold shl
  rw [Int.toNat_natCast, show min n IntKind.i64.bits = n from by simp [IntKind.bits]; omega, Int.one_mul, IntKind.wrap_i64]
  have h1 := pow62 (n := n) (by omega)
  have h2 := pow_pos_ n
  omega
end Go.Proofs.Yteagogcpbcickaa.Pure
/- The place that bits tell, and the value of a table there. Conditions: each lemma's own hypotheses. -/

set_option linter.unusedSimpArgs false
set_option linter.unusedVariables false
namespace Go.Proofs.Yteagogcpbcickaa.Pure
open Go.RowKit Go.Proofs.Yteagogcpbcickaa.G Go.Proofs.YteagogcpbcickaaW.PrintWords Go.Proofs.YteagogcpbcickaaW.PrintLast Go.Proofs.YteagogcpbcickaaW.PrintMore

/-- The place that bits tell. -/
def plc (l : List Int) : Int := l.foldl (fun a b => 2 * a + b) 0
def isBit (b : Int) : Bool := b == 0 || b == 1
theorem plc_snoc (l : List Int) (b : Int) : plc (l ++ [b]) = 2 * plc l + b := by simp [plc, List.foldl_append]
theorem plc_bd (l : List Int) (i : Nat) (hi : i ≤ l.length) (h : ∀ j, j < i → isBit (l.getD j 0) = true) : 0 ≤ plc (l.take i) ∧ plc (l.take i) < 2 ^ i := by
  induction i with
  | zero => simp [plc]
  | succ i ih =>
    obtain ⟨h0, h1⟩ := ih (by omega) (fun j hj => h j (by omega))
    have hb := h i (by omega)
    simp only [isBit, Bool.or_eq_true, beq_iff_eq] at hb
    rw [take_succ_getD l i 0 (by omega), plc_snoc, Int.pow_succ]
    omega
theorem all_getD (l : List Int) (p : Int → Bool) : (List.range l.length).all (fun i => p (l.getD i 0)) = l.all p := by
  rw [Bool.eq_iff_iff, List.all_eq_true, List.all_eq_true]
  constructor
  · intro h x hx
    obtain ⟨i, hi, rfl⟩ := List.getElem_of_mem hx
    have := h i (by simpa using hi)
    rwa [getD_lt l i 0 hi] at this
  · intro h i hi
    have hi' : i < l.length := by simpa using hi
    rw [getD_lt l i 0 hi']
    exact h _ (List.getElem_mem hi')
/-- The value of a table at bits; -1 where they are none. -/
def valAt (N : Int) (s : ByteArray) (l : List Int) : Int := if tok N s ∧ (l.length : Int) = N ∧ l.all isBit then bt s (plc l) - 48 else -1
theorem bt_digit {n : Nat} {l : List Bool} {x : Int} (h0 : 0 ≤ x) (h1 : x < l.length) : bt (ones l) x = 48 ∨ bt (ones l) x = 49 := by
  obtain ⟨i, rfl⟩ := Int.eq_ofNat_of_zero_le h0
  rw [bt_ones l i (by omega)]
  unfold sgn
  split <;> simp
end Go.Proofs.Yteagogcpbcickaa.Pure
/- What the nodes of a right graph are worth. Conditions: each lemma's own hypotheses. -/
set_option linter.unusedSimpArgs false
set_option linter.unusedVariables false
namespace Go.Proofs.Yteagogcpbcickaa.Pure
open Go.RowKit Go.Proofs.Yteagogcpbcickaa.G Go.Proofs.YteagogcpbcickaaW.PrintWords Go.Proofs.YteagogcpbcickaaW.PrintLast Go.Proofs.YteagogcpbcickaaW.PrintMore

theorem wraps_i64' (n : Int) (h₀ : 0 ≤ n) (h₁ : n < 2 ^ 62) : IntKind.i64.wrap n = n := by rw [IntKind.wrap_i64]; omega
theorem bit_nat (k : BinOp) (a b : Nat) (ha : a < 2 ^ 62) (hb : b < 2 ^ 62) : Go.bits .and .i64 (a : Int) (b : Int) = ((a &&& b : Nat) : Int) := (bits_nat .i64 62 (by decide) wraps_i64' a b ha hb).1
theorem and_one' {x : Int} (h0 : 0 ≤ x) (h1 : x < 4611686018427387904) : Go.bits .and .i64 x 1 = x % 2 := by
  obtain ⟨n, rfl⟩ := Int.eq_ofNat_of_zero_le h0
  have := bit_nat .and n 1 (by omega) (by decide)
  rw [show ((1 : Nat) : Int) = 1 from rfl] at this
  rw [this, Nat.and_one_is_mod]
  omega
/-- A wire's value, of the values of the nodes. -/
def gbit (vs : List Int) (w : Int) : Int := Go.bits .xor .i64 (rd vs (w / 2)) (w % 2)
def gv (vs : List Int) (a : S79) : Int := Go.bits .and .i64 (gbit vs a.f0) (gbit vs a.f1)
def gvals (L : List S79) (xs : List Int) : List Int := L.foldl (fun vs a => vs ++ [gv vs a]) (0 :: xs)
theorem gvals_succ (L : List S79) (xs : List Int) (i : Nat) (hi : i < L.length) : gvals (L.take (i + 1)) xs = gvals (L.take i) xs ++ [gv (gvals (L.take i) xs) (rd_T79 L (i : Int))] := by
  unfold gvals
  rw [take_succ_getD L i z79 hi, List.foldl_append, rdA_nat]
  rfl
theorem gvals_len (L : List S79) (xs : List Int) : (gvals L xs).length = 1 + xs.length + L.length := by
  have h : ∀ (L : List S79) (ys : List Int), (L.foldl (fun vs a => vs ++ [gv vs a]) ys).length = ys.length + L.length := by
    intro L
    induction L with
    | nil => intro ys; rfl
    | cons a r ih => intro ys; rw [List.foldl_cons, ih]; simp; omega
  unfold gvals
  rw [h]
  simp
  omega
theorem rd_app (A B : List Int) {j : Int} (h0 : 0 ≤ j) (h : j < A.length) : rd (A ++ B) j = rd A j := by
  obtain ⟨n, rfl⟩ := Int.eq_ofNat_of_zero_le h0
  rw [rd_nat, rd_nat, List.getD_eq_getElem?_getD, List.getD_eq_getElem?_getD, List.getElem?_append_left (by omega)]
/-- What is known of a node of a right graph. -/
theorem node_bd {ins : Int} {L : List S79} (h : GOk ins L) {i : Nat} (hi : i < L.length) :
    0 ≤ ins ∧ ins ≤ 12 ∧ L.length ≤ 3000 ∧ 2 ≤ (rd_T79 L (i : Int)).f0 ∧ (rd_T79 L (i : Int)).f0 < (rd_T79 L (i : Int)).f1 ∧ (rd_T79 L (i : Int)).f1 < 2 * (ins + 1 + i) := by
  obtain ⟨h1, _, _, h4, _⟩ := h.2.2 i hi
  exact ⟨h.1.1, h.1.2, h.2.1, by omega, by omega, h4⟩
theorem half_w {x : Int} (h0 : 0 ≤ x) (h1 : x < 4611686018427387904) : wrap64 (Int.tdiv x 2) = x / 2 := by
  rw [Int.tdiv_eq_ediv_of_nonneg h0, w64 (by omega) (by omega)]
theorem par_w {x : Int} (h0 : 0 ≤ x) : Int.tmod x 2 = x % 2 := Int.tmod_eq_emod_of_nonneg h0
theorem spec_l07Vals_ev {ins : Int} {L : List S79} (h : GOk ins L) (xs : List Int) (hx : (xs.length : Int) = ins) : Ev (fun k => spec_l07Vals.f k ins L xs) (gvals L xs) := by
  have hb := h.1
  have hl := h.2.1
  have hs : ∀ i, i ≤ L.length → Ev (fun k => spec_l07Vals.l0 k (gvals (L.take i) xs) (i : Int) ins L) (gvals L xs) := by
    refine ev_loop (fun k i => spec_l07Vals.l0 k (gvals (L.take i) xs) (i : Int) ins L) L.length _ (fun i hi e => ev_step (fun k => ?_) e) (ev_step (f := fun _ => some (gvals L xs)) (fun k => ?_) (ev_some _))
    · obtain ⟨b0, b1, b2, b3, b4, b5⟩ := node_bd h hi
      have hlen := gvals_len (L.take i) xs
      rw [List.length_take, Nat.min_eq_left (by omega)] at hlen
      simp only [spec_l07Vals.l0]
      rw [half_w (x := (rd_T79 L (i : Int)).f0) (by omega) (by omega), half_w (x := (rd_T79 L (i : Int)).f1) (by omega) (by omega), par_w (x := (rd_T79 L (i : Int)).f0) (by omega), par_w (x := (rd_T79 L (i : Int)).f1) (by omega),
        if_pos (by omega), if_pos (by omega), if_pos (by omega), if_pos (by omega), if_pos (by omega), if_pos (by omega), if_pos (by omega), w64s i (by omega), gvals_succ L xs i hi]
      rfl
    · simp only [spec_l07Vals.l0]
      rw [if_neg (by omega), List.take_length]
  refine ev_eq (f := fun k => spec_l07Vals.l0 k (gvals (L.take 0) xs) ((0 : Nat) : Int) ins L) (fun k => ?_) (hs 0 (by omega))
  unfold spec_l07Vals.f
  rw [Option.bind_some, if_pos (by simp; omega)]
  rfl
theorem impl_values_ev {ins : Int} {L : List S79} (h : GOk ins L) (xs : List Int) (hx : (xs.length : Int) = ins) : Ev (fun k => impl_Graph_values.f k ins L xs) (gvals L xs) := by
  have hb := h.1
  have hl := h.2.1
  have hs : ∀ i, i ≤ L.length → Ev (fun k => impl_Graph_values.l0 k (gvals (L.take i) xs ++ List.replicate (L.length - i) 0) L (L.length : Int) (i : Int) ins L) (gvals L xs) := by
    refine ev_loop (fun k i => impl_Graph_values.l0 k (gvals (L.take i) xs ++ List.replicate (L.length - i) 0) L (L.length : Int) (i : Int) ins L) L.length _ (fun i hi e => ev_step (fun k => ?_) e) (ev_step (f := fun _ => some (gvals L xs)) (fun k => ?_) (ev_some _))
    · obtain ⟨b0, b1, b2, b3, b4, b5⟩ := node_bd h hi
      have hlen := gvals_len (L.take i) xs
      rw [List.length_take, Nat.min_eq_left (by omega)] at hlen
      have hall : (gvals (L.take i) xs ++ List.replicate (L.length - i) (0 : Int)).length = 1 + xs.length + L.length := by rw [List.length_append, hlen, List.length_replicate]; omega
      simp only [impl_Graph_values.l0]
      rw [half_w (x := (rd_T79 L (i : Int)).f0) (by omega) (by omega), half_w (x := (rd_T79 L (i : Int)).f1) (by omega) (by omega), and_one' (x := (rd_T79 L (i : Int)).f0) (by omega) (by omega), and_one' (x := (rd_T79 L (i : Int)).f1) (by omega) (by omega),
        show wrap64 (wrap64 (ins + 1) + (i : Int)) = ((1 + xs.length + i : Nat) : Int) from by rw [w64 (n := ins + 1) (by omega) (by omega), w64 (by omega) (by omega)]; omega,
        if_pos (by omega), if_pos (by omega), if_pos (by omega), if_pos (by omega), if_pos (by omega), if_pos (by omega), if_pos (by omega), if_pos (by omega), if_pos (by omega), w64s i (by omega),
        rd_app _ _ (by omega) (by omega), rd_app _ _ (by omega) (by omega), gvals_succ L xs i hi, Int.toNat_natCast]
      congr 1
      rw [List.set_append_right _ _ (by omega), hlen, Nat.sub_self, show L.length - i = (L.length - (i + 1)) + 1 from by omega, List.replicate_succ, List.set_cons_zero, List.append_assoc]
      rfl
    · simp only [impl_Graph_values.l0]
      rw [if_neg (by omega), List.take_length, Nat.sub_self]
      simp
  refine ev_eq (f := fun k => impl_Graph_values.l0 k (gvals (L.take 0) xs ++ List.replicate (L.length - 0) 0) L (L.length : Int) ((0 : Nat) : Int) ins L) (fun k => ?_) (hs 0 (by omega))
  unfold impl_Graph_values.f
  rw [show wrap64 (wrap64 (ins + 1) + (L.length : Int)) = ((1 + xs.length + L.length : Nat) : Int) from by rw [w64 (n := ins + 1) (by omega) (by omega), w64 (by omega) (by omega)]; omega,
    if_pos (by omega), if_pos (by omega), Option.bind_some, Int.toNat_natCast, if_pos (by simp; omega)]
  congr 1
  simp only [List.length_replicate]
  rw [show List.replicate (1 + xs.length + L.length) (0 : Int) = 0 :: (List.replicate xs.length 0 ++ List.replicate L.length 0) from by rw [List.replicate_append_replicate, ← List.replicate_succ]; congr 1; omega]
  rw [show 1 + xs.length = xs.length + 1 from by omega, List.drop_succ_cons, List.drop_left' (by simp), List.take_of_length_le (l := xs) (by omega)]
  rfl
/-! ### bits -/
theorem bit2 : ∀ a b : Fin 2, (Go.bits .xor .i64 (a.val : Int) (b.val : Int) = 0 ∨ Go.bits .xor .i64 (a.val : Int) (b.val : Int) = 1) ∧ (Go.bits .and .i64 (a.val : Int) (b.val : Int) = 0 ∨ Go.bits .and .i64 (a.val : Int) (b.val : Int) = 1) := by decide +kernel
theorem is01 {x : Int} (h : x = 0 ∨ x = 1) : ∃ a : Fin 2, x = (a.val : Int) := by rcases h with rfl | rfl; exact ⟨0, rfl⟩; exact ⟨1, rfl⟩
theorem xor01 {x y : Int} (hx : x = 0 ∨ x = 1) (hy : y = 0 ∨ y = 1) : Go.bits .xor .i64 x y = 0 ∨ Go.bits .xor .i64 x y = 1 := by
  obtain ⟨a, rfl⟩ := is01 hx; obtain ⟨b, rfl⟩ := is01 hy; exact (bit2 a b).1
theorem and01 {x y : Int} (hx : x = 0 ∨ x = 1) (hy : y = 0 ∨ y = 1) : Go.bits .and .i64 x y = 0 ∨ Go.bits .and .i64 x y = 1 := by
  obtain ⟨a, rfl⟩ := is01 hx; obtain ⟨b, rfl⟩ := is01 hy; exact (bit2 a b).2
theorem rd01 {vs : List Int} (h : ∀ v ∈ vs, v = 0 ∨ v = 1) (j : Int) : rd vs j = 0 ∨ rd vs j = 1 := by
  unfold rd
  by_cases hj : j.toNat < vs.length
  · rw [getD_lt vs _ _ hj]; exact h _ (List.getElem_mem hj)
  · rw [List.getD_eq_getElem?_getD, List.getElem?_eq_none (by omega)]; exact .inl rfl
theorem gbit01 {vs : List Int} (h : ∀ v ∈ vs, v = 0 ∨ v = 1) (w : Int) : gbit vs w = 0 ∨ gbit vs w = 1 := xor01 (rd01 h _) (by omega)
theorem gvals01 (L : List S79) {xs : List Int} (h : ∀ v ∈ xs, v = 0 ∨ v = 1) : ∀ v ∈ gvals L xs, v = 0 ∨ v = 1 := by
  have hh : ∀ (L : List S79) (ys : List Int), (∀ v ∈ ys, v = 0 ∨ v = 1) → ∀ v ∈ L.foldl (fun vs a => vs ++ [gv vs a]) ys, v = 0 ∨ v = 1 := by
    intro L
    induction L with
    | nil => intro ys hy; exact hy
    | cons a r ih =>
      intro ys hy
      rw [List.foldl_cons]
      refine ih _ fun v hv => ?_
      rcases List.mem_append.1 hv with hv | hv
      · exact hy v hv
      · rw [List.mem_singleton.1 hv]
        exact and01 (gbit01 hy _) (gbit01 hy _)
  refine hh L _ fun v hv => ?_
  rcases List.mem_cons.1 hv with rfl | hv
  · exact .inl rfl
  · exact h v hv
theorem all_isBit {xs : List Int} (h : xs.all isBit = true) : ∀ v ∈ xs, v = 0 ∨ v = 1 := by
  intro v hv
  have := List.all_eq_true.1 h v hv
  unfold isBit at this
  simpa using this
/-! ### wires -/
def wireB (ins : Int) (n : Nat) (w : Int) : Bool := decide (0 ≤ w ∧ w ≤ 2 * (ins + n) + 1)
theorem in01' (x a b : Int) : spec_l01In.f x a b = some (decide (a ≤ x ∧ x ≤ b)) := by
  unfold spec_l01In.f
  by_cases h : x ≥ a
  · rw [if_pos h]; simp [h]
  · rw [if_neg h]; simp [h]
theorem within' (x a b : Int) : impl_within.f x a b = some (decide (a ≤ x ∧ x ≤ b)) := by
  unfold impl_within.f
  by_cases h : x ≥ a
  · rw [if_pos h]; simp [h]
  · rw [if_neg h]; simp [h]
theorem isWire_eq {ins : Int} {L : List S79} (h : GOk ins L) (w : Int) : impl_Graph_isWire.f ins L w = some (wireB ins L.length w) := by
  have hb := h.1
  have hl := h.2.1
  unfold impl_Graph_isWire.f impl_Graph_wires.f wireB
  rw [Option.bind_some, w64 (n := ins + 1) (by omega) (by omega), w64 (n := ins + 1 + (L.length : Int)) (by omega) (by omega), w64 (n := 2 * (ins + 1 + (L.length : Int))) (by omega) (by omega), w64 (by omega) (by omega), within', Option.bind_some]
  congr 1
  exact decide_eq_decide.2 (by omega)
theorem l07Wire_eq {ins : Int} {L : List S79} (h : GOk ins L) (w : Int) : spec_l07Wire.f ins L w = some (wireB ins L.length w) := by
  have hb := h.1
  have hl := h.2.1
  unfold spec_l07Wire.f wireB
  rw [w64 (n := ins + (L.length : Int)) (by omega) (by omega), w64 (n := 2 * (ins + (L.length : Int))) (by omega) (by omega), w64 (by omega) (by omega), in01', Option.bind_some]
end Go.Proofs.Yteagogcpbcickaa.Pure
/- The table of a wire of a right graph. Conditions: each lemma's own hypotheses. -/
set_option linter.unusedSimpArgs false
set_option linter.unusedVariables false
namespace Go.Proofs.Yteagogcpbcickaa.Pure
open Go.RowKit Go.Proofs.Yteagogcpbcickaa.G Go.Proofs.YteagogcpbcickaaW.PrintWords Go.Proofs.YteagogcpbcickaaW.PrintLast Go.Proofs.YteagogcpbcickaaW.PrintMore

theorem shr_nat' (z j : Nat) (hj : j ≤ 60) : shr .i64 (z : Int) (j : Int) = ((z / 2 ^ j : Nat) : Int) := by
  unfold shr
  rw [Int.toNat_natCast, show min j IntKind.i64.bits = j from by simp [IntKind.bits]; omega]
  norm_cast
theorem pow_cast' (j : Nat) : (2 : Int) ^ j = ((2 ^ j : Nat) : Int) := by norm_cast
theorem and_one_nat (q : Nat) (h : q < 4611686018427387904) : Go.bits .and .i64 (q : Int) 1 = ((q % 2 : Nat) : Int) := by
  rw [and_one' (by omega) (by omega)]
  omega
theorem div_par (i j : Nat) (hi : i ≤ 4096) : Int.tmod (wrap64 (Int.tdiv (i : Int) ((2 ^ j : Nat) : Int))) 2 = ((i / 2 ^ j % 2 : Nat) : Int) := by
  rw [Int.tdiv_eq_ediv_of_nonneg (Int.natCast_nonneg _), show (i : Int) / ((2 ^ j : Nat) : Int) = ((i / 2 ^ j : Nat) : Int) from (Int.natCast_ediv _ _).symm]
  have hlt : i / 2 ^ j ≤ i := Nat.div_le_self _ _
  generalize i / 2 ^ j = q at *
  rw [w64 (by omega) (by omega), Int.tmod_eq_emod_of_nonneg (by omega)]
  omega
/-- The bits of a place of a table of n bits. -/
def bitsAt (n a : Nat) : List Int := (List.range n).map fun i => ((a / 2 ^ (n - 1 - i) % 2 : Nat) : Int)
theorem bitsAt_len (n a : Nat) : (bitsAt n a).length = n := by simp [bitsAt]
theorem bitsAt_01 (n a : Nat) : ∀ v ∈ bitsAt n a, v = 0 ∨ v = 1 := by
  intro v hv
  simp only [bitsAt, List.mem_map] at hv
  obtain ⟨i, _, rfl⟩ := hv
  omega
def gtab (n : Nat) (L : List S79) (w : Int) : List Int := (List.range (2 ^ n)).map fun a => 48 + gbit (gvals L (bitsAt n a)) w
theorem gtab_len (n : Nat) (L : List S79) (w : Int) : (gtab n L w).length = 2 ^ n := by simp [gtab]
theorem sign_eq {v : Int} (h : v = 0 ∨ v = 1) : impl_sign.f v = some (48 + v) := by
  rcases h with rfl | rfl <;> decide +kernel
theorem sign_eq' {v : Int} (h : v = 0 ∨ v = 1) : wrap64 (48 + v) % 256 = 48 + v := by
  rcases h with rfl | rfl <;> decide +kernel
theorem impl_gt_l1 {n : Nat} {L : List S79} (h : GOk (n : Int) L) (w : Int) (hw : 0 ≤ w ∧ w ≤ 2 * ((n : Int) + L.length) + 1) (i : Nat) (hi : i < 2 ^ n) (y ys : List Int) (hy : y.length = 2 ^ n) (hz : ys.length = n) {R : Int × ByteArray × Bool}
    (go : Ev (fun k => impl_GraphTable.l0 k w (y.set i (48 + gbit (gvals L (bitsAt n i)) w)) (bitsAt n i) ((2 ^ n : Nat) : Int) ((i + 1 : Nat) : Int) (n : Int) L) R) :
    Ev (fun k => impl_GraphTable.l1 k w y ys (i : Int) ((2 ^ n : Nat) : Int) (i : Int) (n : Int) 0 (n : Int) L) R := by
  have hn : n ≤ 12 := by have := h.1.2; omega
  have hp := pow12 hn
  have hl := h.2.1
  have hloop : ∀ j, j ≤ n → Ev (fun k => impl_GraphTable.l1 k w y ((bitsAt n i).take j ++ ys.drop j) (i : Int) ((2 ^ n : Nat) : Int) (i : Int) (n : Int) (j : Int) (n : Int) L) R := by
    refine ev_loop (fun k j => impl_GraphTable.l1 k w y ((bitsAt n i).take j ++ ys.drop j) (i : Int) ((2 ^ n : Nat) : Int) (i : Int) (n : Int) (j : Int) (n : Int) L) n _ (fun j hj e => ev_step (fun k => ?_) e) ?_
    · simp only [impl_GraphTable.l1]
      have hlt : i / 2 ^ (n - 1 - j) ≤ i := Nat.div_le_self _ _
      rw [show wrap64 (wrap64 ((n : Int) - 1) - (j : Int)) = ((n - 1 - j : Nat) : Int) from by rw [w64 (n := (n : Int) - 1) (by omega) (by omega), w64 (by omega) (by omega)]; omega, u64_of (by omega) (by omega), shr_nat' i _ (by omega), and_one_nat _ (by omega),
        if_pos (by omega), if_pos (by omega), if_pos (by omega), if_pos (by rw [List.length_append, List.length_take, List.length_drop, bitsAt_len]; omega), w64s j (by omega), Int.toNat_natCast, set_front (bitsAt n i) ys j _ (by rw [bitsAt_len, hz]) (by omega) (by simp [bitsAt, hj])]
    · refine ev_step (f := fun k => (impl_Graph_values.f k (n : Int) L (bitsAt n i)).bind fun t112 => (if 0 ≤ (wrap64 (Int.tdiv w 2)) then (if (wrap64 (Int.tdiv w 2)) < (t112.length : Int) then ((impl_sign.f (Go.bits .xor .i64 (rd t112 (wrap64 (Int.tdiv w 2))) (Go.bits .and .i64 w 1))).bind fun t116 => (if 0 ≤ (i : Int) then (if (i : Int) < (y.length : Int) then (impl_GraphTable.l0 k w (y.set (i : Int).toNat t116) (bitsAt n i) ((2 ^ n : Nat) : Int) (wrap64 ((i : Int) + 1)) (n : Int) L) else (none)) else (none))) else (none)) else (none))) (fun k => ?_) ?_
      · simp only [impl_GraphTable.l1]
        rw [if_neg (by omega), List.take_of_length_le (by rw [bitsAt_len]; omega), List.drop_of_length_le (by omega), List.append_nil]
      refine ev_bind (impl_values_ev h (bitsAt n i) (by rw [bitsAt_len])) ?_
      have hlen := gvals_len L (bitsAt n i)
      rw [bitsAt_len] at hlen
      have hg := gbit01 (gvals01 L (bitsAt_01 n i)) w
      rw [half_w (by omega) (by omega), and_one' (by omega) (by omega), w64s i (by omega)]
      simp only [if_pos (show 0 ≤ w / 2 by omega), if_pos (show w / 2 < ((gvals L (bitsAt n i)).length : Int) by omega)]
      have e := sign_eq hg
      unfold gbit at e
      simp only [e, Option.bind_some, if_pos (show (0 : Int) ≤ (i : Int) by omega), if_pos (show (i : Int) < (y.length : Int) by omega), Int.toNat_natCast]
      exact go
  have := hloop 0 (by omega)
  simpa using this
theorem impl_gt_l0 {n : Nat} {L : List S79} (h : GOk (n : Int) L) (w : Int) (hw : 0 ≤ w ∧ w ≤ 2 * ((n : Int) + L.length) + 1) :
    Ev (fun k => impl_GraphTable.l0 k w (List.replicate (2 ^ n) 0) (List.replicate n 0) ((2 ^ n : Nat) : Int) 0 (n : Int) L) ((n : Int), strOfNums (gtab n L w), true) := by
  have hn : n ≤ 12 := by have := h.1.2; omega
  have hp := pow12 hn
  have hloop : ∀ d i, i + d = 2 ^ n → ∀ ys : List Int, ys.length = n → Ev (fun k => impl_GraphTable.l0 k w ((gtab n L w).take i ++ (List.replicate (2 ^ n) (0 : Int)).drop i) ys ((2 ^ n : Nat) : Int) (i : Int) (n : Int) L) ((n : Int), strOfNums (gtab n L w), true) := by
    intro d
    induction d with
    | zero =>
      intro i hi ys hys
      refine ev_step (f := fun _ => some ((n : Int), strOfNums (gtab n L w), true)) (fun k => ?_) (ev_some _)
      simp only [impl_GraphTable.l0]
      rw [if_neg (by omega), List.take_of_length_le (by rw [gtab_len]; omega), List.drop_of_length_le (by rw [List.length_replicate]; omega), List.append_nil]
    | succ d ih =>
      intro i hi ys hys
      have hlt : i < 2 ^ n := by omega
      refine ev_step (f := fun k => impl_GraphTable.l1 k w ((gtab n L w).take i ++ (List.replicate (2 ^ n) (0 : Int)).drop i) ys (i : Int) ((2 ^ n : Nat) : Int) (i : Int) (n : Int) 0 (n : Int) L) (fun k => ?_) ?_
      · simp only [impl_GraphTable.l0]
        rw [if_pos (by omega), hys]
      refine impl_gt_l1 h w hw i hlt _ ys (by rw [List.length_append, List.length_take, List.length_drop, gtab_len, List.length_replicate]; omega) hys ?_
      have := ih (i + 1) (by omega) (bitsAt n i) (bitsAt_len n i)
      rwa [← set_front (gtab n L w) (List.replicate (2 ^ n) (0 : Int)) i (48 + gbit (gvals L (bitsAt n i)) w) (by rw [gtab_len, List.length_replicate]) (by rw [List.length_replicate]; exact hlt) (by simp [gtab, hlt])] at this
  have := hloop (2 ^ n) 0 (by omega) (List.replicate n 0) (by simp)
  simpa using this
def gtabT (ins : Int) (L : List S79) (w : Int) : Int × ByteArray × Bool := if GOk ins L ∧ wireB ins L.length w = true then (ins, strOfNums (gtab ins.toNat L w), true) else (0, ⟨#[]⟩, false)
theorem impl_GraphTable_ev (ins : Int) (L : List S79) (w : Int) : Ev (fun k => impl_GraphTable.f k ins L w) (gtabT ins L w) := by
  have hbad : ∀ q : Int × ByteArray × Bool, q = (0, ⟨#[]⟩, false) → Ev (fun k => impl_GraphTable.j0 k w true ins L) q := by
    intro q hq
    subst hq
    refine ev_step (f := fun _ => some (0, ⟨#[]⟩, false)) (fun k => ?_) (ev_some _)
    simp only [impl_GraphTable.j0]
    rw [if_pos trivial]
  unfold impl_GraphTable.f impl_GraphOk.f
  simp only [Option.bind_some]
  by_cases h : GOk ins L
  · simp only [decide_eq_true h, if_true, isWire_eq h, Option.bind_some]
    cases hw : wireB ins L.length w with
    | false => exact hbad _ (by unfold gtabT; rw [if_neg (by rw [hw]; simp)])
    | true =>
      have hb := h.1
      have hw' := hw
      unfold wireB at hw'
      have hw' := of_decide_eq_true hw'
      obtain ⟨n, rfl⟩ := Int.eq_ofNat_of_zero_le hb.1
      have hn : n ≤ 12 := by omega
      have hp := pow12 hn
      have := impl_gt_l0 h w hw'
      unfold gtabT
      rw [if_pos ⟨h, hw⟩, Int.toNat_natCast]
      refine ev_step (fun k => ?_) this
      simp only [impl_GraphTable.j0]
      rw [if_neg (by decide), u64_of (by omega) (by omega), shl_eq n (by omega), pow_cast', Int.toNat_natCast, if_pos (Int.natCast_nonneg _), if_pos (Int.natCast_nonneg _), if_pos (Nat.le_trans hp (by decide)), Option.bind_some, if_pos (Int.natCast_nonneg _), Int.toNat_natCast, if_pos (by omega), List.length_replicate]
  · simp only [decide_eq_false h, if_neg (show ¬ (false = true) by decide)]
    exact hbad _ (by unfold gtabT; rw [if_neg (fun hh => h hh.1)])
theorem pow2_ev (n : Nat) (hn : n ≤ 60) : Ev (fun k => spec_l01Pow2.f k (n : Int)) ((2 ^ n : Nat) : Int) := ev_ge n (fun k hk => by rw [pow2_eq n hn k hk, pow_cast'])
theorem spec_gt_l1 {n : Nat} {L : List S79} (h : GOk (n : Int) L) (w : Int) (hw : 0 ≤ w ∧ w ≤ 2 * ((n : Int) + L.length) + 1) (i : Nat) (hi : i < 2 ^ n) (y : List Int) (hy : y.length ≤ 2 ^ n) {R : Int × ByteArray × Bool}
    (go : Ev (fun k => spec_GraphTable.l0 k w (y ++ [48 + gbit (gvals L (bitsAt n i)) w]) ((i + 1 : Nat) : Int) (n : Int) L) R) :
    Ev (fun k => spec_GraphTable.l1 k w y (i : Int) [] 0 (n : Int) L) R := by
  have hn : n ≤ 12 := by have := h.1.2; omega
  have hp := pow12 hn
  have hl := h.2.1
  have hloop : ∀ j, j ≤ n → Ev (fun k => spec_GraphTable.l1 k w y (i : Int) ((bitsAt n i).take j) (j : Int) (n : Int) L) R := by
    refine ev_loop (fun k j => spec_GraphTable.l1 k w y (i : Int) ((bitsAt n i).take j) (j : Int) (n : Int) L) n _ (fun j hj e => ?_) ?_
    · refine ev_step (f := fun k => (spec_l01Pow2.f k ((n - 1 - j : Nat) : Int)).bind fun t112 => (if t112 = 0 then (none) else (if ((bitsAt n i).take j).length < 17592186044416 then (spec_GraphTable.l1 k w y (i : Int) ((bitsAt n i).take j ++ [Int.tmod (wrap64 (Int.tdiv (i : Int) t112)) 2]) ((j + 1 : Nat) : Int) (n : Int) L) else (none)))) (fun k => ?_) ?_
      · simp only [spec_GraphTable.l1]
        rw [if_pos (by omega), show wrap64 (wrap64 ((n : Int) - 1) - (j : Int)) = ((n - 1 - j : Nat) : Int) from by rw [w64 (n := (n : Int) - 1) (by omega) (by omega), w64 (by omega) (by omega)]; omega, w64s j (by omega)]
      refine ev_bind (pow2_ev (n - 1 - j) (by omega)) ?_
      have hpos : 0 < 2 ^ (n - 1 - j) := Nat.two_pow_pos _
      have hlt : i / 2 ^ (n - 1 - j) ≤ i := Nat.div_le_self _ _
      have e1 := div_par i (n - 1 - j) (by omega)
      have e2 : (bitsAt n i).take j ++ [((i / 2 ^ (n - 1 - j) % 2 : Nat) : Int)] = (bitsAt n i).take (j + 1) := by
        rw [take_succ_getD (bitsAt n i) j 0 (by rw [bitsAt_len]; exact hj), getD_lt _ j 0 (by rw [bitsAt_len]; exact hj)]
        simp [bitsAt]
      simp only [if_neg (show ¬ (((2 ^ (n - 1 - j) : Nat) : Int) = 0) from fun h_ => by have := Int.ofNat.inj h_; omega), if_pos (show ((bitsAt n i).take j).length < 17592186044416 by rw [List.length_take, bitsAt_len]; omega), e1, e2]
      exact e
    · refine ev_step (f := fun k => (spec_l07Vals.f k (n : Int) L (bitsAt n i)).bind fun t116 => (if 0 ≤ (wrap64 (Int.tdiv w 2)) then (if (wrap64 (Int.tdiv w 2)) < (t116.length : Int) then (if y.length < 140737488355328 then (spec_GraphTable.l0 k w (y ++ [(wrap64 (48 + (Go.bits .xor .i64 (rd t116 (wrap64 (Int.tdiv w 2))) (Int.tmod w 2)))) % 256]) (wrap64 ((i : Int) + 1)) (n : Int) L) else (none)) else (none)) else (none))) (fun k => ?_) ?_
      · simp only [spec_GraphTable.l1]
        rw [if_neg (by omega), List.take_of_length_le (by rw [bitsAt_len]; omega)]
      refine ev_bind (spec_l07Vals_ev h (bitsAt n i) (by rw [bitsAt_len])) ?_
      have hlen := gvals_len L (bitsAt n i)
      rw [bitsAt_len] at hlen
      have hg := gbit01 (gvals01 L (bitsAt_01 n i)) w
      rw [half_w (by omega) (by omega), par_w (by omega), w64s i (by omega)]
      simp only [if_pos (show 0 ≤ w / 2 by omega), if_pos (show w / 2 < ((gvals L (bitsAt n i)).length : Int) by omega), if_pos (show y.length < 140737488355328 by omega)]
      have e := sign_eq' hg
      unfold gbit at e
      rw [e]
      exact go
  have := hloop 0 (by omega)
  simpa using this
theorem spec_gt_l0 {n : Nat} {L : List S79} (h : GOk (n : Int) L) (w : Int) (hw : 0 ≤ w ∧ w ≤ 2 * ((n : Int) + L.length) + 1) :
    Ev (fun k => spec_GraphTable.l0 k w [] 0 (n : Int) L) ((n : Int), strOfNums (gtab n L w), true) := by
  have hn : n ≤ 12 := by have := h.1.2; omega
  have hp := pow12 hn
  have hloop : ∀ d i, i + d = 2 ^ n → Ev (fun k => spec_GraphTable.l0 k w ((gtab n L w).take i) (i : Int) (n : Int) L) ((n : Int), strOfNums (gtab n L w), true) := by
    intro d
    induction d with
    | zero =>
      intro i hi
      refine ev_step (f := fun k => (spec_l01Pow2.f k (n : Int)).bind fun t108 => (if (i : Int) < t108 then (spec_GraphTable.l1 k w ((gtab n L w).take i) (i : Int) [] 0 (n : Int) L) else (some ((n : Int), strOfNums ((gtab n L w).take i), true)))) (fun k => ?_) ?_
      · simp only [spec_GraphTable.l0]
      refine ev_bind (pow2_ev n (by omega)) ?_
      simp only [if_neg (show ¬ ((i : Int) < ((2 ^ n : Nat) : Int)) by omega)]
      rw [List.take_of_length_le (by rw [gtab_len]; omega)]
      exact ev_some _
    | succ d ih =>
      intro i hi
      have hlt : i < 2 ^ n := by omega
      refine ev_step (f := fun k => (spec_l01Pow2.f k (n : Int)).bind fun t108 => (if (i : Int) < t108 then (spec_GraphTable.l1 k w ((gtab n L w).take i) (i : Int) [] 0 (n : Int) L) else (some ((n : Int), strOfNums ((gtab n L w).take i), true)))) (fun k => ?_) ?_
      · simp only [spec_GraphTable.l0]
      refine ev_bind (pow2_ev n (by omega)) ?_
      simp only [if_pos (show ((i : Int) < ((2 ^ n : Nat) : Int)) by omega)]
      refine spec_gt_l1 h w hw i hlt _ (by rw [List.length_take, gtab_len]; omega) ?_
      have := ih (i + 1) (by omega)
      rwa [take_succ_getD (gtab n L w) i 0 (by rw [gtab_len]; exact hlt), getD_lt _ i 0 (by rw [gtab_len]; exact hlt), show (gtab n L w)[i]'(by rw [gtab_len]; exact hlt) = 48 + gbit (gvals L (bitsAt n i)) w from by simp [gtab]] at this
  have := hloop (2 ^ n) 0 (by omega)
  simpa using this
theorem spec_GraphTable_ev (ins : Int) (L : List S79) (hL : WfA L) (hins : (Lit.int .i64 ins).wf = true) (w : Int) : Ev (fun k => spec_GraphTable.f k ins L w) (gtabT ins L w) := by
  have hbad : ∀ q : Int × ByteArray × Bool, q = (0, ⟨#[]⟩, false) → Ev (fun k => spec_GraphTable.j0 k w true ins L) q := by
    intro q hq
    subst hq
    refine ev_step (f := fun _ => some (0, ⟨#[]⟩, false)) (fun k => ?_) (ev_some _)
    simp only [spec_GraphTable.j0]
    rw [if_pos trivial]
  unfold spec_GraphTable.f
  refine ev_bind (spec_GraphOk_ev ins L hL hins) ?_
  by_cases h : GOk ins L
  · simp only [decide_eq_true h, if_true, l07Wire_eq h, Option.bind_some]
    cases hw : wireB ins L.length w with
    | false => exact hbad _ (by unfold gtabT; rw [if_neg (by rw [hw]; simp)])
    | true =>
      have hb := h.1
      have hw' := hw
      unfold wireB at hw'
      have hw' := of_decide_eq_true hw'
      obtain ⟨n, rfl⟩ := Int.eq_ofNat_of_zero_le hb.1
      have := spec_gt_l0 h w hw'
      unfold gtabT
      rw [if_pos ⟨h, hw⟩, Int.toNat_natCast]
      refine ev_step (fun k => ?_) this
      simp only [spec_GraphTable.j0]
      rw [if_neg (by decide)]
  · simp only [decide_eq_false h, if_neg (show ¬ (false = true) by decide)]
    exact hbad _ (by unfold gtabT; rw [if_neg (fun hh => h hh.1)])
end Go.Proofs.Yteagogcpbcickaa.Pure
/- The program's GraphTable and the reference's. Conditions: lengths fit, numbers are int's. -/
set_option linter.unusedSimpArgs false
set_option linter.unusedVariables false
namespace Go.Proofs.Yteagogcpbcickaa.Pure
open Go.RowKit Go.Proofs.Yteagogcpbcickaa.G Go.Proofs.YteagogcpbcickaaW.PrintWords Go.Proofs.YteagogcpbcickaaW.PrintLast Go.Proofs.YteagogcpbcickaaW.PrintMore

theorem FnExactGraphTable_pure : ∀ (a0_0 : Int) (l0_1 : List S116) (a1 : Int), ((Lit.int .i64 a0_0).wf = true ∧ (l0_1.length ≤ maxLen ∧ ∀ x_ ∈ l0_1, ((Lit.int .i64 x_.f0).wf = true ∧ (Lit.int .i64 x_.f1).wf = true))) → (Lit.int .i64 a1).wf = true → ∃ k, laws_FnExactGraphTable.f k a0_0 l0_1 a1 = some true := by
  intro a l w ⟨ha, hl, hw⟩ _
  refine ev_rounds ?_
  unfold laws_FnExactGraphTable.f
  simp only [szGraph_eq a l hl, Option.bind_some]
  by_cases h : (l.length : Int) > 1048576
  · simp only [if_pos h]
    exact ev_some _
  · simp only [if_neg h, if_neg (show ¬ (1048576 - (l.length : Int) < 0) by omega)]
    have hg : Ev (fun k => laws_toGraph.f k a l) (a, cvA l) := ev_ge l.length (toGraph_eq a l (by omega))
    refine ev_bind hg ?_
    refine ev_bind (spec_GraphTable_ev a (cvA l) (cvA_wf hw) ha w) ?_
    refine ev_bind hg ?_
    refine ev_bind (impl_GraphTable_ev a (cvA l) w) ?_
    have et : ∀ (N : Int) (s : ByteArray), laws_eqTable.f N s N s = some true := by intro N s; unfold laws_eqTable.f; rw [if_pos rfl, if_pos rfl]
    simp only [et, Option.bind_some, if_true, bne_self_eq_false]
    refine ev_step (fun k => by simp only [laws_FnExactGraphTable.j0]; rw [if_neg (by decide)]) ?_
    refine ev_bind hg ?_
    refine ev_bind (ev_ge l.length (fun k hk => eqGraph_self a (cvA l) (by rw [cvA_length]; omega) k (by rw [cvA_length]; exact hk))) ?_
    simp only [if_true]
    exact ev_some _
end Go.Proofs.Yteagogcpbcickaa.Pure
/- What an argument of a law reads as, told by the print's kinds: a lemma for each shape of type. Conditions: none beyond the lemmas' own hypotheses. -/
namespace Go.Proofs.Yteagogcpbcickaa.Open
open Go.Deep Go.ChangeShapes Go.WideShapes Go.RowKit Go.Proofs.YteagogcpbcickaaW.PrintWords

/-- Whatever reads as data of type t reads by the kind d, and what is read is ok. -/
def Opens {α : Type} (P : Program) (t : TypeId) (d : Kd α) (ok : α → Prop) : Prop :=
  ∀ (H : Type) (enc : TypeId × Value → H) (w : World) (base : Nat) (spare : Nat → Bool) (held : Bool) (fuel : Nat) (cs : List Value) (x : DataW H × List MemPlace),
    DataW.trod enc P w base spare held fuel t cs = some x → ∃ a, d.K w a cs ∧ ok a

def FOpens {α : Type} (P : Program) (fs : List Field) (off : Nat) (d : Kd α) (ok : α → Prop) : Prop :=
  ∀ (H : Type) (enc : TypeId × Value → H) (w : World) (base : Nat) (spare : Nat → Bool) (held : Bool) (fuel : Nat) (cs : List Value),
    (∀ f ∈ fs, ∃ x, DataW.trod enc P w base spare held fuel f.type ((cs.drop f.offset).take (P.cellsOf f.type)) = some x) → ∃ a, d.K w a ((cs.drop off).take d.sz) ∧ ok a

theorem opens_int {P : Program} {t : TypeId} {k : IntKind} (hu : P.underlying t = some (.int k)) : Opens P t (Kd.int k) (fun a => (Lit.int k a).wf = true) := by
  intro H enc w base spare held fuel cs x h
  obtain ⟨n, rfl, _, hw⟩ := DataW.trod_int hu h
  exact ⟨n, rfl, hw⟩
theorem opens_bool {P : Program} {t : TypeId} (hu : P.underlying t = some .bool) : Opens P t Kd.bool (fun _ => True) := by
  intro H enc w base spare held fuel cs x h
  obtain ⟨n, rfl, _⟩ := DataW.trod_bool hu h
  exact ⟨n, rfl, trivial⟩
theorem opens_string {P : Program} {t : TypeId} (hu : P.underlying t = some .string) : Opens P t Kd.string (fun s => s.size ≤ maxLen) := by
  intro H enc w base spare held fuel cs x h
  obtain ⟨n, rfl, _, hw⟩ := DataW.trod_string hu h
  exact ⟨n, rfl, hw⟩
theorem list_of {α : Type} {p : Nat → α → Prop} : ∀ n, (∀ i, i < n → ∃ a, p i a) → ∃ l : List α, l.length = n ∧ ∀ i a, l[i]? = some a → p i a
  | 0, _ => ⟨[], rfl, fun i a h => by simp at h⟩
  | n + 1, h => by
    obtain ⟨l, hl, hp⟩ := list_of n (fun i hi => h i (by omega))
    obtain ⟨a, ha⟩ := h n (by omega)
    refine ⟨l ++ [a], by simp [hl], fun i b hb => ?_⟩
    rw [List.getElem?_append] at hb
    split at hb
    · exact hp i b hb
    · rename_i hi
      have e : i = n := by
        rcases Nat.lt_or_ge (i - l.length) 1 with h1 | h1
        · omega
        · rw [List.getElem?_eq_none (by simpa using h1)] at hb
          cases hb
      subst e
      rw [hl, Nat.sub_self] at hb
      cases hb
      exact ha
theorem opens_slice {α : Type} {P : Program} {t e : TypeId} {d : Kd α} {ok : α → Prop} (hu : P.underlying t = some (.slice e)) (hc : P.cellsOf e = d.sz) (h : Opens P e d ok) :
    Opens P t (Kd.slice e d) (fun l => l.length ≤ maxLen ∧ ∀ x ∈ l, ok x) := by
  intro H enc w base spare held fuel cs x hx
  rcases open_slice hu hx with ⟨rfl, rfl⟩ | ⟨a, len, cap, m, n, D, Pl, rfl, hb, hl, hm, hmm, rfl, hel⟩
  · exact ⟨[], ⟨none, 0, rfl, Nat.le_refl _, rfl, by simp, fun h => absurd h (by simp)⟩, by simp [maxLen], by simp⟩
  · have hle : len ≤ m := by rw [hmm]; split <;> omega
    have hone : ∀ i, i < len → ∃ y : α, (∃ cs', w.cells? base (a.add (i * P.cellsOf e)) (P.cellsOf e) = some cs' ∧ d.K w y cs') ∧ ok y := by
      intro i hi
      obtain ⟨cs', h1, h2⟩ := hel i (by omega)
      obtain ⟨y, hk, ho⟩ := h H enc w base spare held n cs' _ h2
      exact ⟨y, ⟨cs', h1, hk⟩, ho⟩
    obtain ⟨l, hll, hp⟩ := list_of len hone
    subst hll
    refine ⟨l, ⟨some a, cap, rfl, hl, rfl, by simp only [maxLen] at hm; omega, fun _ => ⟨a, rfl, fun j p hj => ?_⟩⟩, by omega, ?_⟩
    · obtain ⟨⟨cs', h1, hk⟩, _⟩ := hp j p hj
      refine ⟨cs', d.K_len hk, hk, fun i u hu => ?_⟩
      have hlt : i < cs'.length := by
        rcases Nat.lt_or_ge i cs'.length with h' | h'
        · exact h'
        · rw [List.getElem?_eq_none h'] at hu; cases hu
      have hlen := d.K_len hk
      obtain ⟨_, hlen2, hcell⟩ := World.cells?_some h1
      rw [hc] at hcell
      have := hcell i (by omega)
      rw [hu] at this
      rw [← Addr.add_add]
      exact this.symm ▸ rfl
    · intro x hx
      obtain ⟨i, hi, rfl⟩ := List.getElem_of_mem hx
      exact (hp i _ (List.getElem?_eq_getElem hi)).2
theorem fopens_one {α : Type} {P : Program} {f : Field} {off : Nat} {d : Kd α} {ok : α → Prop} (ho : f.offset = off) (hc : P.cellsOf f.type = d.sz) (h : Opens P f.type d ok) : FOpens P [f] off d ok := by
  intro H enc w base spare held fuel cs hx
  obtain ⟨x, hx⟩ := hx f (by simp)
  rw [ho, hc] at hx
  exact h H enc w base spare held fuel _ x hx
theorem fopens_cons {α β : Type} {P : Program} {f : Field} {fs : List Field} {off : Nat} {d : Kd α} {d' : Kd β} {ok : α → Prop} {ok' : β → Prop} (ho : f.offset = off) (hc : P.cellsOf f.type = d.sz) (h : Opens P f.type d ok)
    (hs : FOpens P fs (off + d.sz) d' ok') : FOpens P (f :: fs) off (Kd.pair d d') (fun x => ok x.1 ∧ ok' x.2) := by
  intro H enc w base spare held fuel cs hx
  obtain ⟨a, ha, hoa⟩ := fopens_one ho hc h H enc w base spare held fuel cs (fun g hg => hx g (by simp at hg; simp [hg]))
  obtain ⟨b, hb, hob⟩ := hs H enc w base spare held fuel cs (fun g hg => hx g (by simp [hg]))
  refine ⟨(a, b), ⟨_, _, ?_, ha, hb⟩, hoa, hob⟩
  show (cs.drop off).take (d.sz + d'.sz) = _
  rw [List.take_add, List.drop_drop]
theorem opens_struct {α : Type} {P : Program} {t : TypeId} {fs : Array Field} {d : Kd α} {ok : α → Prop} (hu : P.underlying t = some (.struct fs)) (hc : P.cellsOf t = d.sz) (h : FOpens P fs.toList 0 d ok) : Opens P t d ok := by
  intro H enc w base spare held fuel cs x hx
  obtain ⟨xs, n, rfl, _, hlen, hxl, hf⟩ := DataW.trod_struct hu hx
  have := h H enc w base spare held n cs (fun f hm => by
    obtain ⟨i, hi, rfl⟩ := List.getElem_of_mem hm
    have hi' : i < fs.size := by simpa using hi
    have e := hf i fs[i] (Array.getElem?_eq_getElem hi')
    rw [List.getElem?_eq_getElem (show i < xs.length by omega)] at e
    exact ⟨_, by simpa using e⟩)
  rw [List.drop_zero, List.take_of_length_le (by omega)] at this
  exact this
theorem opens_iso {α β : Type} {P : Program} {t : TypeId} {d : Kd α} {ok : α → Prop} (f : β → α) (g : α → β) (hfg : ∀ a, f (g a) = a) (h : Opens P t d ok) : Opens P t (Kd.iso d f) (fun x => ok (f x)) := by
  intro H enc w base spare held fuel cs x hx
  obtain ⟨a, ha, ho⟩ := h H enc w base spare held fuel cs x hx
  exact ⟨g a, by show d.K w (f (g a)) cs; rw [hfg]; exact ha, by show ok (f (g a)); rw [hfg]; exact ho⟩
/-- A struct's value is its cells. -/
theorem agg_of_cells {P : Program} {w : World} {r : Reach} {base : Nat} {t : TypeId} {fs : Array Field} {v : Value} {cs : List Value} (hu : P.underlying t = some (.struct fs)) (hv : Value.okWide P w r base t v) (hc : v.cells.toList = cs) : v = .agg cs.toArray := by
  obtain ⟨c, rfl, _⟩ := okWide_struct hu hv
  simp only [Value.cells] at hc
  subst hc
  simp
end Go.Proofs.Yteagogcpbcickaa.Open
/- The statement FnExactGraphTableSaid of the law FnExactGraphTable: for every input the call returns true and its arguments read as before. Conditions: none. (Written by a program of this session: wip/gen/row.py.) -/
namespace Go.Proofs.Yteagogcpbcickaa.fnExactGraphTable
open Go.ChangeShapes Go.WideShapes Go.ChangeAt Go.RowKit Go.Proofs.Yteagogcpbcickaa.Open Go.Proofs.Yteagogcpbcickaa.G Go.Proofs.YteagogcpbcickaaW.PrintWords
open Go.ChangeMaps (open_string shut_string)
set_option linter.unusedVariables false
theorem own : ownKnob Try.prog.godebug = none := by kernel_rfl
theorem laidOut : laidOutB Try.prog = true := by kernel_rfl
set_option maxRecDepth 100000 in
theorem lifted (os : Os) (started : os.Started) (H : Type) (enc : TypeId × Value → H) :
    ReturnsInHanded {} Try.checked os 5 .any (Rows.fnExactGraphTableSpec.pre6 enc Try.prog Try.f5 Rows.fnExactGraphTableRow.domain false) (Rows.fnExactGraphTableSpec.post enc Try.prog Try.f5 false true false false) := by
  refine returnsInHanded_of_change (C := Try.checked) own started (by kernel_rfl) Try.func5
    (ChangeSpec.witness6 (enc := enc) (C := Try.checked) false ⟨#[], #[.agg #[.int .i64 0, .slice none 0 0], .int .i64 0], []⟩ 8 (by kernel_rfl) (by kernel_rfl) (by kernel_rfl) (by kernel_rfl)) ?_
  intro W base args ds gs before hval0 hW hcnd _
  have hval : ∀ (j : Nat) t v, Try.f5.params[j]? = some t → args[j]? = some v → Value.okWide Try.prog W .any base t v := hval0
  have hW' := hW
  obtain ⟨p, q, hA0, hV, rfl, hfz, hnd⟩ := hW
  have hA : DataW.TrodAll enc Try.prog W 0 (fun _ => true) true Try.f5.params.toList args.toList ds p := hA0
  rw [Try.params5] at hA hval
  obtain ⟨v0, vs0, d0, ds0, p0, q0, hargs, rfl, rfl, h0, r0⟩ := trodAll_cons hA
  obtain ⟨v1, vs1, d1, ds1, p1, q1, rfl, rfl, rfl, h1, r1⟩ := trodAll_cons r0
  obtain ⟨rfl, rfl, rfl⟩ := trodAll_nil r1
  obtain rfl : args = #[v0, v1] := by cases args; simp_all
  obtain ⟨rfl, rfl⟩ := trodVars_none hV
  have k0 := h0
  have lt0 : ∀ x ∈ p0, x.block < W.heap.size := by obtain ⟨m, hm⟩ := k0; exact DataW.trod_lt m _ _ _ hm
  obtain ⟨fu0, hf0⟩ := h0
  obtain ⟨⟨a0_0, l0_1⟩, hk0, ok0⟩ := (opens_struct Try.underlying24 (by kernel_rfl) (fopens_cons rfl (by kernel_rfl) (opens_int Try.underlying3) (fopens_one rfl (by kernel_rfl) (opens_slice (d := k116) Try.underlying22 (by kernel_rfl) (show Opens Try.prog 116 k116 _ from opens_iso _ (fun y => ⟨y.1, y.2⟩) (fun _ => rfl) (opens_struct Try.underlying116 (by kernel_rfl) (fopens_cons rfl (by kernel_rfl) (opens_int Try.underlying3) (fopens_one rfl (by kernel_rfl) (opens_int Try.underlying3))))))))) _ enc W 0 _ true fu0 _ _ hf0
  generalize hcs0 : v0.cells.toList = cs0 at hk0
  obtain ⟨_, _, rfl, rfl, ⟨A0_1, c0_1, rfl, hc0_1, hr0_1⟩⟩ := hk0
  obtain rfl := agg_of_cells Try.underlying24 (hval 0 24 v0 rfl rfl) hcs0
  obtain ⟨a1, rfl, rfl, rfl, ok1⟩ := open_int Try.underlying3 (hval 1 3 v1 rfl rfl) h1
  clear hA0 hval0
  obtain ⟨k, hk⟩ := Pure.FnExactGraphTable_pure a0_0 l0_1 a1 ok0 ok1
  refine (laws_FnExactGraphTable.calls k a0_0 _ _ l0_1 a1 true W hr0_1 hc0_1 rfl hk).mono fun e W' ⟨he, bel0⟩ => ?_
  have bel : Below W.heap.size W W' := bel0
  subst he
  exact ⟨_, rfl, _, _, _, [], _, [], hW', trodAll_mk1 (shut_bool Try.underlying4 _), (trodAll_cons_mk (Below.trod laidOut (by kernel_rfl) (of_decide_eq_true (by kernel_rfl)) k0 bel lt0) (trodAll_cons_mk (shut_int Try.underlying3 ok1) trodAll_mk0)), rfl, bel.frame _, fun h => by cases h⟩
theorem over : Rows.fnExactGraphTableRow.holds Try.pinned (OpenSpec.ofChange Rows.fnExactGraphTableSpec) :=
  OpenClaim.holds_of_wide 5 Try.f5 rfl rfl rfl rfl rfl rfl rfl ⟨rfl, rfl, rfl, rfl, rfl⟩ rfl rfl rfl rfl rfl (by kernel_rfl) Try.func5 (by kernel_rfl)
    (of_decide_eq_true (by kernel_rfl)) (by unfold Func.isWrapper; first | (rw [if_pos (by decide +kernel)]; kernel_rfl) | (rw [if_neg (by decide +kernel)]; exact ⟨rfl, rfl⟩))
    (fun os started H enc _ => lifted os started H enc)
theorem proved : Rows.FnExactGraphTableSaid := over
end Go.Proofs.Yteagogcpbcickaa.fnExactGraphTable
namespace Go.Proofs.Yteagogcpbcickaa
/-- The given statement. -/
theorem fnExactGraphTable_holds : Rows.FnExactGraphTableSaid := fnExactGraphTable.proved
#print axioms fnExactGraphTable_holds
end Go.Proofs.Yteagogcpbcickaa
