-- texts of this session, merged by a program of it (wip/gen/pack.py)
import Derived.Test.YteagogcpbcickaaKFnExactReadPick1
import Derived.Test.YteagogcpbcickaaKFnExactReadPick2
import Derived.Test.YteagogcpbcickaaKFnExactReadPick3
import Derived.Laws.BitsLemmas
import Derived.ProofKit
import Derived.WalkKit
import Derived.Deep.Slices
import Derived.OpenShut
import Derived.ChangeVars
import Derived.ChangeOld
import Derived.Below
import Derived.Test.YteagogcpbcickaaWWords
import Derived.Test.YteagogcpbcickaaRows
import Derived.ShutString
-- written by a program of this session (wip/gen/gen.py); Lean checks it
namespace Go.Proofs.Yteagogcpbcickaa.G
open Go.RowKit Go.Proofs.YteagogcpbcickaaW.PrintWords Go.Proofs.YteagogcpbcickaaW.PrintLast Go.Proofs.YteagogcpbcickaaW.PrintMore
attribute [local go_sem] max2_int min2_int max_two min_two max_three min_three max_four min_four   -- for this text's walks alone
set_option linter.unusedVariables false
set_option linter.unusedSimpArgs false

/-! ### laws_FnExactReadPick: function 14 -/
mutual
def laws_FnExactReadPick.j0 : Nat → ByteArray → Bool → Bool → List Int → Int → List Int → Int → Option (Bool)
  | 0, _, _, _, _, _, _, _ => none
  | k + 1, x0, x4, x32, x827000, x827001, x833000, x833001 => if x32 = true then (some false) else ((laws_markPick.f k x833000 x833001 1).bind fun bt834 => ((laws_heldPick.f k bt834.2 x833001 1).bind fun t836 => (if t836 < 0 then (some false) else (if t836 = bt834.1 then ((impl_ReadPick.f k x0).bind fun bt837 => ((laws_eqPick.f k bt837.1 bt837.2.1 x827000 x827001).bind fun t843 => (if t843 = true then (laws_FnExactReadPick.j1 k bt834.1 (bt837.2.2 != x4) bt834.2 x833001) else (laws_FnExactReadPick.j1 k bt834.1 true bt834.2 x833001)))) else (some false)))))
def laws_FnExactReadPick.j1 : Nat → Int → Bool → List Int → Int → Option (Bool)
  | 0, _, _, _, _ => none
  | k + 1, x7, x57, x833000, x833001 => if x57 = true then (some false) else ((laws_heldPick.f k x833000 x833001 1).bind fun t844 => (if t844 < 0 then (some false) else (if t844 = x7 then (some true) else (some false))))
end
def laws_FnExactReadPick.f (k : Nat) (a0 : ByteArray) : Option (Bool) := if (a0.size : Int) > 1048576 then (some true) else ((spec_ReadPick.f k a0).bind fun bt821 => ((impl_ReadPick.f k a0).bind fun bt827 => ((laws_eqPick.f k bt827.1 bt827.2.1 bt821.1 bt821.2.1).bind fun t833 => (if t833 = true then (laws_FnExactReadPick.j0 k a0 bt821.2.2 (bt827.2.2 != bt821.2.2) bt821.1 bt821.2.1 bt827.1 bt827.2.1) else (laws_FnExactReadPick.j0 k a0 bt821.2.2 true bt821.1 bt821.2.1 bt827.1 bt827.2.1)))))
set_option maxHeartbeats 8000000 in
set_option maxRecDepth 100000 in
theorem laws_FnExactReadPick.calls (k : Nat) (a0 : ByteArray) (r : Bool) (w : World) (ht_ : r = true) (h : laws_FnExactReadPick.f k a0 = some r) :
    Calls Try.prog 14 #[.string a0] w fun e w' => e = .returned (.bool r) ∧ Below w.heap.size w w' := by
  have hu68 := Try.underlying68
  have HT := Aside0.mk ht_
  clear ht_
  have HB := Aside0.mk (Below.refl w.heap.size w)
  have H : (if (a0.size : Int) > 1048576 then (some true) else ((spec_ReadPick.f k a0).bind fun bt821 => ((impl_ReadPick.f k a0).bind fun bt827 => ((laws_eqPick.f k bt827.1 bt827.2.1 bt821.1 bt821.2.1).bind fun t833 => (if t833 = true then (laws_FnExactReadPick.j0 k a0 bt821.2.2 (bt827.2.2 != bt821.2.2) bt821.1 bt821.2.1 bt827.1 bt827.2.1) else (laws_FnExactReadPick.j0 k a0 bt821.2.2 true bt821.1 bt821.2.1 bt827.1 bt827.2.1)))))) = some r := h
  clear h
  by_cases c2 : (a0.size : Int) > 1048576
  · rw [if_pos c2] at H
    have c2b0 : decide (1048576 < (a0.size : Int)) = true := decide_eq_true c2
    have c2b1 : decide (1048576 < a0.size) = true := decide_eq_true (by omega)
    clear c2
    obtain rfl := Option.some.inj H
    go_enter Try.func14, Try.ntmps14
    go_wp2
    go_ret
    exact ⟨by first | rfl | (simp [errW_none, errW_some] <;> rfl) | (simp [*, errW_none, errW_some] <;> rfl), by repeat (first | (with_reducible first | exact HB.out | apply below_alloc | apply pw_below_drewN | apply below_drew1) | exact HB.out)⟩
  · rw [if_neg c2] at H
    have c2b0 : decide (1048576 < (a0.size : Int)) = false := decide_eq_false c2
    have c2b1 : decide (1048576 < a0.size) = false := decide_eq_false (by omega)
    clear c2
    replace H := Option.bind_eq_some_iff.mp H
    obtain ⟨⟨t821, t824, t825⟩, A30, H⟩ := H
    replace H : ((impl_ReadPick.f k a0).bind fun bt827 => ((laws_eqPick.f k bt827.1 bt827.2.1 t821 t824).bind fun t833 => (if t833 = true then (laws_FnExactReadPick.j0 k a0 t825 (bt827.2.2 != t825) t821 t824 bt827.1 bt827.2.1) else (laws_FnExactReadPick.j0 k a0 t825 true t821 t824 bt827.1 bt827.2.1)))) = some r := H
    have A3 := Aside0.mk A30
    clear A30
    replace H := Option.bind_eq_some_iff.mp H
    obtain ⟨⟨t827, t830, t831⟩, A40, H⟩ := H
    replace H : ((laws_eqPick.f k t827 t830 t821 t824).bind fun t833 => (if t833 = true then (laws_FnExactReadPick.j0 k a0 t825 (t831 != t825) t821 t824 t827 t830) else (laws_FnExactReadPick.j0 k a0 t825 true t821 t824 t827 t830))) = some r := H
    have A4 := Aside0.mk A40
    clear A40
    have HC5 := Aside0.mk H
    clear H
    go_enter Try.func14, Try.ntmps14
    go_upto_region 5 with (first | ((with_reducible refine gate_callee (f := 53) rfl ?_); refine goesL_ (some 16) rfl rfl Try.func53 (by kernel_rfl) rfl #[.string a0] rfl (by (try simp only [List.map_toArray, List.map_cons, List.map_nil]); first | done | rfl | (simp only [List.length_drop, List.length_take]; rfl)) ?_; (with_reducible refine (spec_ReadPick.calls k a0 t821 t824 t825 _ A3.out).mono ?_); rintro e w6 ⟨v822, rfl, ho0, hb⟩; refine ⟨_, rfl, ?_⟩; have n0_ := Aside0.mk (Kd.R_lower ho0 (below_size (by repeat (first | (with_reducible first | exact HB.out | apply below_alloc | apply pw_below_drewN | apply below_drew1) | exact HB.out)))); have n1_ := Aside0.mk (below_step (by repeat (first | (with_reducible first | exact HB.out | apply below_alloc | apply pw_below_drewN | apply below_drew1) | exact HB.out)) hb); clear HB; have HO823 := n0_; have HB := n1_; clear n0_ n1_; (try clear hb); (try clear hb2); (try clear hk); (try clear hi); (try clear ho0)) | ((with_reducible refine gate_dst (N := 3) rfl ?_); refine box_event ?hg (N := 3) ?hd (cs := #[.slice none 0 0, .int .i64 0]) (t := 68) ?hr ?_; (case hd => rfl); (case hg => rfl); (case hr => first | (go_simp; done) | (go_simp; rfl)); intro gb826 hg w7 hbox hb; have n0_ := Aside0.mk (Kd.R_below (by (with_reducible repeat (first | apply Kd.R_alloc | apply Kd.R_drewN | apply Kd.R_drew)); exact HO823.out) hb); have n1_ := Aside0.mk (below_step (by repeat (first | (with_reducible first | exact HB.out | apply below_alloc | apply pw_below_drewN | apply below_drew1) | exact HB.out)) hb); have n2_ := Aside0.mk (hbox); have n3_ := Aside0.mk ((by rw [hg]; exact (below_size (by repeat (first | (with_reducible first | exact HB.out | apply below_alloc | apply pw_below_drewN | apply below_drew1) | exact HB.out))) : w.heap.size ≤ gb826)); have n4_ := Aside0.mk ((by rw [hg]; exact (below_size (by repeat (first | (with_reducible first | exact HB.out | apply below_alloc | apply pw_below_drewN | apply below_drew1) | exact HB.out))) : w.heap.size ≤ gb826)); clear HO823; clear HB; have HO823 := n0_; have HB := n1_; have BK826 := n2_; have GW826 := n3_; have GE826 := n4_; clear n0_ n1_ n2_ n3_ n4_; clear hb hbox hg; obtain ⟨Ao8, co8, eo8⟩ := Kd.R_slice HO823.out; subst eo8; have hcz9_0 : w7.cell? ⟨gb826, 0, none⟩ = some (.slice none 0 0) := (blk_cell BK826.out 0).trans rfl; have hcz9_1 : w7.cell? ⟨gb826, 1, none⟩ = some (.int .i64 0) := (blk_cell BK826.out 1).trans rfl; have hfz9_0 := blk_frozen BK826.out 0; have hfz9_1 := blk_frozen BK826.out 1) | ((with_reducible refine gate_callee (f := 54) rfl ?_); refine goesL_ (some 21) rfl rfl Try.func54 (by kernel_rfl) rfl #[.string a0] rfl (by (try simp only [List.map_toArray, List.map_cons, List.map_nil]); first | done | rfl | (simp only [List.length_drop, List.length_take]; rfl)) ?_; (with_reducible refine (impl_ReadPick.calls k a0 t827 t830 t831 _ A4.out).mono ?_); rintro e w10 ⟨v828, rfl, ho0, hb⟩; refine ⟨_, rfl, ?_⟩; have n0_ := Aside0.mk (Kd.R_elder' (by (with_reducible repeat (first | apply Kd.R_alloc | apply Kd.R_drewN | apply Kd.R_drew)); exact (Kd.R_mono (Kd.R_far (p := ⟨gb826, 1, none⟩) (Kd.R_far (p := ⟨gb826, 0, none⟩) (Kd.R_types HO823.out BK826.out (by decide)) (fun _ hk => hk.2) (.slice Ao8 t821.length co8)) (fun _ hk => hk.2) (.int .i64 t824)) (fun _ h_ => h_.1))) (Kd.R_base ho0) hb); have n1_ := Aside0.mk (Kd.R_lower (Kd.R_new' ho0 (Kd.R_lt (by (with_reducible repeat (first | apply Kd.R_alloc | apply Kd.R_drewN | apply Kd.R_drew)); exact (Kd.R_mono (Kd.R_far (p := ⟨gb826, 1, none⟩) (Kd.R_far (p := ⟨gb826, 0, none⟩) (Kd.R_types HO823.out BK826.out (by decide)) (fun _ hk => hk.2) (.slice Ao8 t821.length co8)) (fun _ hk => hk.2) (.int .i64 t824)) (fun _ h_ => h_.1))))) (below_size (by repeat (first | (with_reducible first | exact HB.out | apply below_alloc | apply pw_below_drewN | apply below_drew1 | refine below_set ?_ GE826.out) | exact HB.out)))); have n2_ := Aside0.mk (blk_below (g := gb826) (o := .cells #[.slice Ao8 t821.length co8, .int .i64 t824] 68 (0, 0)) (by (with_reducible repeat (first | refine blk_drewN ?_ _ | refine blk_drew ?_ | refine blk_alloc ?_ _)); refine blk_put (cs := #[.slice Ao8 t821.length co8, .int .i64 0]) ?_ 1 _ rfl; (with_reducible repeat (first | refine blk_drewN ?_ _ | refine blk_drew ?_ | refine blk_alloc ?_ _)); refine blk_put (cs := #[.slice none 0 0, .int .i64 0]) ?_ 0 _ rfl; (with_reducible repeat (first | refine blk_drewN ?_ _ | refine blk_drew ?_ | refine blk_alloc ?_ _)); exact BK826.out) hb); have n3_ := Aside0.mk (below_step (by repeat (first | (with_reducible first | exact HB.out | apply below_alloc | apply pw_below_drewN | apply below_drew1 | refine below_set ?_ GE826.out) | exact HB.out)) hb); clear HO823; clear BK826; clear HB; have HO823 := n0_; have HO829 := n1_; have BK826 := n2_; have HB := n3_; clear n0_ n1_ n2_ n3_; (try clear hb); (try clear hb2); (try clear hk); (try clear hi); (try clear ho0)) | ((with_reducible refine gate_dst (N := 5) rfl ?_); refine box_event ?hg (N := 5) ?hd (cs := #[.slice none 0 0, .int .i64 0]) (t := 68) ?hr ?_; (case hd => rfl); (case hg => rfl); (case hr => first | (go_simp; done) | (go_simp; rfl)); intro gb832 hg w11 hbox hb; have n0_ := Aside0.mk (Kd.R_below (by (with_reducible repeat (first | apply Kd.R_alloc | apply Kd.R_drewN | apply Kd.R_drew)); exact HO823.out) hb); have n1_ := Aside0.mk (Kd.R_below (by (with_reducible repeat (first | apply Kd.R_alloc | apply Kd.R_drewN | apply Kd.R_drew)); exact HO829.out) hb); have n2_ := Aside0.mk (blk_below (g := gb826) (o := .cells #[.slice Ao8 t821.length co8, .int .i64 t824] 68 (0, 0)) (by (with_reducible repeat (first | refine blk_drewN ?_ _ | refine blk_drew ?_ | refine blk_alloc ?_ _)); exact BK826.out) hb); have n3_ := Aside0.mk (below_step (by repeat (first | (with_reducible first | exact HB.out | apply below_alloc | apply pw_below_drewN | apply below_drew1 | refine below_set ?_ GE826.out) | exact HB.out)) hb); have n4_ := Aside0.mk (hbox); have n5_ := Aside0.mk ((by rw [hg]; exact (below_size (by repeat (first | (with_reducible first | exact HB.out | apply below_alloc | apply pw_below_drewN | apply below_drew1 | refine below_set ?_ GE826.out) | exact HB.out))) : w.heap.size ≤ gb832)); have n6_ := Aside0.mk ((by rw [hg]; exact (below_size (by repeat (first | (with_reducible first | exact HB.out | apply below_alloc | apply pw_below_drewN | apply below_drew1 | refine below_set ?_ GE826.out) | exact HB.out))) : w.heap.size ≤ gb832)); have n7_ := Aside0.mk ((by rw [hg]; exact Nat.ne_of_lt (blk_lt (g := gb826) (o := .cells #[.slice Ao8 t821.length co8, .int .i64 t824] 68 (0, 0)) (by (with_reducible repeat (first | refine blk_drewN ?_ _ | refine blk_drew ?_ | refine blk_alloc ?_ _)); exact BK826.out)) : gb826 ≠ gb832)); have n8_ := Aside0.mk ((by rw [hg]; exact Nat.ne_of_gt (blk_lt (g := gb826) (o := .cells #[.slice Ao8 t821.length co8, .int .i64 t824] 68 (0, 0)) (by (with_reducible repeat (first | refine blk_drewN ?_ _ | refine blk_drew ?_ | refine blk_alloc ?_ _)); exact BK826.out)) : gb832 ≠ gb826)); clear HO823; clear HO829; clear BK826; clear HB; have HO823 := n0_; have HO829 := n1_; have BK826 := n2_; have HB := n3_; have BK832 := n4_; have GW832 := n5_; have GE832 := n6_; have NB826_832 := n7_; have NB832_826 := n8_; clear n0_ n1_ n2_ n3_ n4_ n5_ n6_ n7_ n8_; clear hb hbox hg; obtain ⟨Ao12, co12, eo12⟩ := Kd.R_slice HO829.out; subst eo12; have hnb13 := NB832_826.out; have hnc13 := NB826_832.out; have hcz14_0 : w11.cell? ⟨gb832, 0, none⟩ = some (.slice none 0 0) := (blk_cell BK832.out 0).trans rfl; have hcz14_1 : w11.cell? ⟨gb832, 1, none⟩ = some (.int .i64 0) := (blk_cell BK832.out 1).trans rfl; have hfz14_0 := blk_frozen BK832.out 0; have hfz14_1 := blk_frozen BK832.out 1))
    (try simp only [Act.put, List.setIfInBounds_toArray, List.set_cons_zero, List.set_cons_succ])
    go_cut [32] (fun v32 wc => ∃ (kq : Nat) (x32_4 : Bool), v32 = .bool x32_4 ∧ Aside0 (laws_FnExactReadPick.j0 kq a0 t825 x32_4 t821 t824 t827 t830 = some r) ∧ Aside0 (kq ≤ k) ∧ Aside0 (Kd.R (Kd.int .i64) 3 wc w.heap.size (fun k_ => some k_ ≠ ((.slice Ao12 t827.length co12) : Value).ownBlock) (.slice Ao8 t821.length co8) t821) ∧ Aside0 (Kd.R (Kd.int .i64) 3 wc w.heap.size (fun k_ => some k_ ≠ ((.slice Ao8 t821.length co8) : Value).ownBlock) (.slice Ao12 t827.length co12) t827) ∧ Aside0 (wc.heap[gb826]? = some (.cells #[(.slice Ao8 t821.length co8), .int .i64 t824] 68 (0, 0))) ∧ Aside0 (wc.heap[gb832]? = some (.cells #[(.slice Ao12 t827.length co12), .int .i64 t830] 68 (0, 0))) ∧ Aside0 (Below w.heap.size w wc))
    case first =>
      have H := HC5.out
      clear HC5
      replace H := Option.bind_eq_some_iff.mp H
      obtain ⟨t833, A150, H⟩ := H
      replace H : (if t833 = true then (laws_FnExactReadPick.j0 k a0 t825 (t831 != t825) t821 t824 t827 t830) else (laws_FnExactReadPick.j0 k a0 t825 true t821 t824 t827 t830)) = some r := H
      have A15 := Aside0.mk A150
      clear A150
      by_cases c16 : t833 = true
      · subst c16
        have H1 : (laws_FnExactReadPick.j0 k a0 t825 (t831 != t825) t821 t824 t827 t830) = some r := by rw [if_pos rfl] at H; exact H
        clear H
        have H := H1
        clear H1
        have H' := Aside0.mk H
        clear H
        have hnb17 := NB832_826.out
        have hnc17 := NB826_832.out
        have hcz18_0 : w11.cell? ⟨gb832, 0, none⟩ = some (.slice none 0 0) := (blk_cell BK832.out 0).trans rfl
        have hcz18_1 : w11.cell? ⟨gb832, 1, none⟩ = some (.int .i64 0) := (blk_cell BK832.out 1).trans rfl
        have hfz18_0 := blk_frozen BK832.out 0
        have hfz18_1 := blk_frozen BK832.out 1
        have hcz19_0 : w11.cell? ⟨gb826, 0, none⟩ = some (.slice Ao8 t821.length co8) := (blk_cell BK826.out 0).trans rfl
        have hcz19_1 : w11.cell? ⟨gb826, 1, none⟩ = some (.int .i64 t824) := (blk_cell BK826.out 1).trans rfl
        have hfz19_0 := blk_frozen BK826.out 0
        have hfz19_1 := blk_frozen BK826.out 1
        go_wp2_with (first | ((with_reducible refine gate_callee (f := 52) rfl ?_); refine goesL_ (some 26) rfl rfl Try.func52 (by kernel_rfl) rfl #[.agg #[.slice Ao12 t827.length co12, .int .i64 t830], .agg #[.slice Ao8 t821.length co8, .int .i64 t824]] rfl (by (try simp only [List.map_toArray, List.map_cons, List.map_nil]); first | done | rfl | (simp only [List.length_drop, List.length_take]; rfl)) ?_; (with_reducible refine (laws_eqPick.calls k _ _ t827 t830 _ _ t821 t824 true _ ?side1 ?side2 ?side3 ?side4 A15.out).mono ?_); (case side1 => refine (Kd.R_reads' (e := 3) (base := w.heap.size) (ok := fun k_ => (True ∧ some k_ ≠ (.slice Ao8 t821.length co8 : Value).ownBlock)) (n := t827.length) (c := co12) ?_).2.2; exact (by (with_reducible repeat (first | apply Kd.R_alloc | apply Kd.R_drewN | apply Kd.R_drew)); exact (Kd.R_mono (Kd.R_far (p := ⟨gb832, 1, none⟩) (Kd.R_far (p := ⟨gb832, 0, none⟩) (Kd.R_types HO829.out BK832.out (by decide)) (fun _ hk => hk.2) (.slice Ao12 t827.length co12)) (fun _ hk => hk.2) (.int .i64 t830)) (fun _ h_ => h_.1)))); (case side2 => exact (Kd.R_reads' HO829.out).2.1); (case side3 => refine (Kd.R_reads' (e := 3) (base := w.heap.size) (ok := fun k_ => (True ∧ some k_ ≠ (.slice Ao12 t827.length co12 : Value).ownBlock)) (n := t821.length) (c := co8) ?_).2.2; exact (by (with_reducible repeat (first | apply Kd.R_alloc | apply Kd.R_drewN | apply Kd.R_drew)); exact (Kd.R_mono (Kd.R_far (p := ⟨gb832, 1, none⟩) (Kd.R_far (p := ⟨gb832, 0, none⟩) (Kd.R_types HO823.out BK832.out (by decide)) (fun _ hk => hk.2) (.slice Ao12 t827.length co12)) (fun _ hk => hk.2) (.int .i64 t830)) (fun _ h_ => h_.1)))); (case side4 => exact (Kd.R_reads' HO823.out).2.1); rintro e w20 ⟨rfl, hb⟩; refine ⟨_, rfl, ?_⟩; have n0_ := Aside0.mk (Kd.R_below (by (with_reducible repeat (first | apply Kd.R_alloc | apply Kd.R_drewN | apply Kd.R_drew)); exact (Kd.R_mono (Kd.R_far (p := ⟨gb832, 1, none⟩) (Kd.R_far (p := ⟨gb832, 0, none⟩) (Kd.R_types HO823.out BK832.out (by decide)) (fun _ hk => hk.2) (.slice Ao12 t827.length co12)) (fun _ hk => hk.2) (.int .i64 t830)) (fun _ h_ => h_.1))) hb); have n1_ := Aside0.mk (Kd.R_below (by (with_reducible repeat (first | apply Kd.R_alloc | apply Kd.R_drewN | apply Kd.R_drew)); exact (Kd.R_mono (Kd.R_far (p := ⟨gb832, 1, none⟩) (Kd.R_far (p := ⟨gb832, 0, none⟩) (Kd.R_types HO829.out BK832.out (by decide)) (fun _ hk => hk.2) (.slice Ao12 t827.length co12)) (fun _ hk => hk.2) (.int .i64 t830)) (fun _ h_ => h_.1))) hb); have n2_ := Aside0.mk (blk_below (g := gb826) (o := .cells #[.slice Ao8 t821.length co8, .int .i64 t824] 68 (0, 0)) (by (with_reducible repeat (first | refine blk_drewN ?_ _ | refine blk_drew ?_ | refine blk_alloc ?_ _)); refine blk_far ?_ NB826_832.out _; (with_reducible repeat (first | refine blk_drewN ?_ _ | refine blk_drew ?_ | refine blk_alloc ?_ _)); refine blk_far ?_ NB826_832.out _; (with_reducible repeat (first | refine blk_drewN ?_ _ | refine blk_drew ?_ | refine blk_alloc ?_ _)); exact BK826.out) hb); have n3_ := Aside0.mk (blk_below (g := gb832) (o := .cells #[.slice Ao12 t827.length co12, .int .i64 t830] 68 (0, 0)) (by (with_reducible repeat (first | refine blk_drewN ?_ _ | refine blk_drew ?_ | refine blk_alloc ?_ _)); refine blk_put (cs := #[.slice Ao12 t827.length co12, .int .i64 0]) ?_ 1 _ rfl; (with_reducible repeat (first | refine blk_drewN ?_ _ | refine blk_drew ?_ | refine blk_alloc ?_ _)); refine blk_put (cs := #[.slice none 0 0, .int .i64 0]) ?_ 0 _ rfl; (with_reducible repeat (first | refine blk_drewN ?_ _ | refine blk_drew ?_ | refine blk_alloc ?_ _)); exact BK832.out) hb); have n4_ := Aside0.mk (below_step (by repeat (first | (with_reducible first | exact HB.out | apply below_alloc | apply pw_below_drewN | apply below_drew1 | refine below_set ?_ GE826.out | refine below_set ?_ GE832.out) | exact HB.out)) hb); clear HO823; clear HO829; clear BK826; clear BK832; clear HB; have HO823 := n0_; have HO829 := n1_; have BK826 := n2_; have BK832 := n3_; have HB := n4_; clear n0_ n1_ n2_ n3_ n4_; (try clear hb); (try clear hb2); (try clear hk); (try clear hi)))
        go_meet
        case rel => exact ⟨_, ((t831 != t825)), (by first | rfl | (simp; done) | (simp [*]; done)), H', ⟨by first | omega | exact Nat.le_refl _⟩, ⟨by (with_reducible repeat (first | apply Kd.R_alloc | apply Kd.R_drewN | apply Kd.R_drew)); exact Kd.R_mono HO823.out (fun _ hk => hk.2)⟩, ⟨by (with_reducible repeat (first | apply Kd.R_alloc | apply Kd.R_drewN | apply Kd.R_drew)); exact Kd.R_mono HO829.out (fun _ hk => hk.2)⟩, ⟨by (with_reducible repeat (first | refine blk_drewN ?_ _ | refine blk_drew ?_ | refine blk_alloc ?_ _)); exact BK826.out⟩, ⟨by (with_reducible repeat (first | refine blk_drewN ?_ _ | refine blk_drew ?_ | refine blk_alloc ?_ _)); exact BK832.out⟩, ⟨by repeat (first | (with_reducible first | exact HB.out | apply below_alloc | apply pw_below_drewN | apply below_drew1 | refine below_set ?_ GE826.out | refine below_set ?_ GE832.out) | exact HB.out)⟩⟩
      · replace c16 := Bool.eq_false_iff.mpr c16
        subst c16
        have H1 : (laws_FnExactReadPick.j0 k a0 t825 true t821 t824 t827 t830) = some r := by rw [if_neg (show ¬ (false = true) by decide)] at H; exact H
        clear H
        have H := H1
        clear H1
        have H' := Aside0.mk H
        clear H
        have hnb21 := NB832_826.out
        have hnc21 := NB826_832.out
        have hcz22_0 : w11.cell? ⟨gb832, 0, none⟩ = some (.slice none 0 0) := (blk_cell BK832.out 0).trans rfl
        have hcz22_1 : w11.cell? ⟨gb832, 1, none⟩ = some (.int .i64 0) := (blk_cell BK832.out 1).trans rfl
        have hfz22_0 := blk_frozen BK832.out 0
        have hfz22_1 := blk_frozen BK832.out 1
        have hcz23_0 : w11.cell? ⟨gb826, 0, none⟩ = some (.slice Ao8 t821.length co8) := (blk_cell BK826.out 0).trans rfl
        have hcz23_1 : w11.cell? ⟨gb826, 1, none⟩ = some (.int .i64 t824) := (blk_cell BK826.out 1).trans rfl
        have hfz23_0 := blk_frozen BK826.out 0
        have hfz23_1 := blk_frozen BK826.out 1
        go_wp2_with (first | ((with_reducible refine gate_callee (f := 52) rfl ?_); refine goesL_ (some 26) rfl rfl Try.func52 (by kernel_rfl) rfl #[.agg #[.slice Ao12 t827.length co12, .int .i64 t830], .agg #[.slice Ao8 t821.length co8, .int .i64 t824]] rfl (by (try simp only [List.map_toArray, List.map_cons, List.map_nil]); first | done | rfl | (simp only [List.length_drop, List.length_take]; rfl)) ?_; (with_reducible refine (laws_eqPick.calls k _ _ t827 t830 _ _ t821 t824 false _ ?side1 ?side2 ?side3 ?side4 A15.out).mono ?_); (case side1 => refine (Kd.R_reads' (e := 3) (base := w.heap.size) (ok := fun k_ => (True ∧ some k_ ≠ (.slice Ao8 t821.length co8 : Value).ownBlock)) (n := t827.length) (c := co12) ?_).2.2; exact (by (with_reducible repeat (first | apply Kd.R_alloc | apply Kd.R_drewN | apply Kd.R_drew)); exact (Kd.R_mono (Kd.R_far (p := ⟨gb832, 1, none⟩) (Kd.R_far (p := ⟨gb832, 0, none⟩) (Kd.R_types HO829.out BK832.out (by decide)) (fun _ hk => hk.2) (.slice Ao12 t827.length co12)) (fun _ hk => hk.2) (.int .i64 t830)) (fun _ h_ => h_.1)))); (case side2 => exact (Kd.R_reads' HO829.out).2.1); (case side3 => refine (Kd.R_reads' (e := 3) (base := w.heap.size) (ok := fun k_ => (True ∧ some k_ ≠ (.slice Ao12 t827.length co12 : Value).ownBlock)) (n := t821.length) (c := co8) ?_).2.2; exact (by (with_reducible repeat (first | apply Kd.R_alloc | apply Kd.R_drewN | apply Kd.R_drew)); exact (Kd.R_mono (Kd.R_far (p := ⟨gb832, 1, none⟩) (Kd.R_far (p := ⟨gb832, 0, none⟩) (Kd.R_types HO823.out BK832.out (by decide)) (fun _ hk => hk.2) (.slice Ao12 t827.length co12)) (fun _ hk => hk.2) (.int .i64 t830)) (fun _ h_ => h_.1)))); (case side4 => exact (Kd.R_reads' HO823.out).2.1); rintro e w24 ⟨rfl, hb⟩; refine ⟨_, rfl, ?_⟩; have n0_ := Aside0.mk (Kd.R_below (by (with_reducible repeat (first | apply Kd.R_alloc | apply Kd.R_drewN | apply Kd.R_drew)); exact (Kd.R_mono (Kd.R_far (p := ⟨gb832, 1, none⟩) (Kd.R_far (p := ⟨gb832, 0, none⟩) (Kd.R_types HO823.out BK832.out (by decide)) (fun _ hk => hk.2) (.slice Ao12 t827.length co12)) (fun _ hk => hk.2) (.int .i64 t830)) (fun _ h_ => h_.1))) hb); have n1_ := Aside0.mk (Kd.R_below (by (with_reducible repeat (first | apply Kd.R_alloc | apply Kd.R_drewN | apply Kd.R_drew)); exact (Kd.R_mono (Kd.R_far (p := ⟨gb832, 1, none⟩) (Kd.R_far (p := ⟨gb832, 0, none⟩) (Kd.R_types HO829.out BK832.out (by decide)) (fun _ hk => hk.2) (.slice Ao12 t827.length co12)) (fun _ hk => hk.2) (.int .i64 t830)) (fun _ h_ => h_.1))) hb); have n2_ := Aside0.mk (blk_below (g := gb826) (o := .cells #[.slice Ao8 t821.length co8, .int .i64 t824] 68 (0, 0)) (by (with_reducible repeat (first | refine blk_drewN ?_ _ | refine blk_drew ?_ | refine blk_alloc ?_ _)); refine blk_far ?_ NB826_832.out _; (with_reducible repeat (first | refine blk_drewN ?_ _ | refine blk_drew ?_ | refine blk_alloc ?_ _)); refine blk_far ?_ NB826_832.out _; (with_reducible repeat (first | refine blk_drewN ?_ _ | refine blk_drew ?_ | refine blk_alloc ?_ _)); exact BK826.out) hb); have n3_ := Aside0.mk (blk_below (g := gb832) (o := .cells #[.slice Ao12 t827.length co12, .int .i64 t830] 68 (0, 0)) (by (with_reducible repeat (first | refine blk_drewN ?_ _ | refine blk_drew ?_ | refine blk_alloc ?_ _)); refine blk_put (cs := #[.slice Ao12 t827.length co12, .int .i64 0]) ?_ 1 _ rfl; (with_reducible repeat (first | refine blk_drewN ?_ _ | refine blk_drew ?_ | refine blk_alloc ?_ _)); refine blk_put (cs := #[.slice none 0 0, .int .i64 0]) ?_ 0 _ rfl; (with_reducible repeat (first | refine blk_drewN ?_ _ | refine blk_drew ?_ | refine blk_alloc ?_ _)); exact BK832.out) hb); have n4_ := Aside0.mk (below_step (by repeat (first | (with_reducible first | exact HB.out | apply below_alloc | apply pw_below_drewN | apply below_drew1 | refine below_set ?_ GE826.out | refine below_set ?_ GE832.out) | exact HB.out)) hb); clear HO823; clear HO829; clear BK826; clear BK832; clear HB; have HO823 := n0_; have HO829 := n1_; have BK826 := n2_; have BK832 := n3_; have HB := n4_; clear n0_ n1_ n2_ n3_ n4_; (try clear hb); (try clear hb2); (try clear hk); (try clear hi)))
        go_meet
        case rel => exact ⟨_, (true), (by first | rfl | (simp; done) | (simp [*]; done)), H', ⟨by first | omega | exact Nat.le_refl _⟩, ⟨by (with_reducible repeat (first | apply Kd.R_alloc | apply Kd.R_drewN | apply Kd.R_drew)); exact Kd.R_mono HO823.out (fun _ hk => hk.2)⟩, ⟨by (with_reducible repeat (first | apply Kd.R_alloc | apply Kd.R_drewN | apply Kd.R_drew)); exact Kd.R_mono HO829.out (fun _ hk => hk.2)⟩, ⟨by (with_reducible repeat (first | refine blk_drewN ?_ _ | refine blk_drew ?_ | refine blk_alloc ?_ _)); exact BK826.out⟩, ⟨by (with_reducible repeat (first | refine blk_drewN ?_ _ | refine blk_drew ?_ | refine blk_alloc ?_ _)); exact BK832.out⟩, ⟨by repeat (first | (with_reducible first | exact HB.out | apply below_alloc | apply pw_below_drewN | apply below_drew1 | refine below_set ?_ GE826.out | refine below_set ?_ GE832.out) | exact HB.out)⟩⟩
    case rest =>
      clear HC5
      try clear c1
      try clear c2
      try clear c2b0
      try clear c2b1
      try clear p2
      try clear c5
      try clear c13
      try clear c14
      try clear c16
      try clear c17
      try clear c21
      try clear hcz14_0
      try clear hcz14_1
      try clear hcz18_0
      try clear hcz18_1
      try clear hcz19_0
      try clear hcz19_1
      try clear hcz22_0
      try clear hcz22_1
      try clear hcz23_0
      try clear hcz23_1
      try clear hcz9_0
      try clear hcz9_1
      try clear hfz14_0
      try clear hfz14_1
      try clear hfz18_0
      try clear hfz18_1
      try clear hfz19_0
      try clear hfz19_1
      try clear hfz22_0
      try clear hfz22_1
      try clear hfz23_0
      try clear hfz23_1
      try clear hfz9_0
      try clear hfz9_1
      obtain ⟨kq, x32_4, rfl, HA, HJ4, HO_827000, HO_833000, BK826, BK832, HB⟩ := hcut
      cases kq with
      | zero => exact absurd HA.out (by simp [laws_FnExactReadPick.j0])
      | succ kj4 =>
        have H := HA.out
        clear HA
        simp only [laws_FnExactReadPick.j0] at H
        by_cases c25 : x32_4 = true
        · subst c25
          have H1 : (some false) = some r := by rw [if_pos rfl] at H; exact H
          clear H
          have H := H1
          clear H1
          exact absurd ((Option.some.inj H).trans HT.out) (by decide)
        · replace c25 := Bool.eq_false_iff.mpr c25
          subst c25
          have H1 : ((laws_markPick.f kj4 t827 t830 1).bind fun bt834 => ((laws_heldPick.f kj4 bt834.2 t830 1).bind fun t836 => (if t836 < 0 then (some false) else (if t836 = bt834.1 then ((impl_ReadPick.f kj4 a0).bind fun bt837 => ((laws_eqPick.f kj4 bt837.1 bt837.2.1 t821 t824).bind fun t843 => (if t843 = true then (laws_FnExactReadPick.j1 kj4 bt834.1 (bt837.2.2 != t825) bt834.2 t830) else (laws_FnExactReadPick.j1 kj4 bt834.1 true bt834.2 t830)))) else (some false))))) = some r := by rw [if_neg (show ¬ (false = true) by decide)] at H; exact H
          clear H
          have H := H1
          clear H1
          replace H := Option.bind_eq_some_iff.mp H
          obtain ⟨⟨t834, t835⟩, A260, H⟩ := H
          replace H : ((laws_heldPick.f kj4 t835 t830 1).bind fun t836 => (if t836 < 0 then (some false) else (if t836 = t834 then ((impl_ReadPick.f kj4 a0).bind fun bt837 => ((laws_eqPick.f kj4 bt837.1 bt837.2.1 t821 t824).bind fun t843 => (if t843 = true then (laws_FnExactReadPick.j1 kj4 t834 (bt837.2.2 != t825) t835 t830) else (laws_FnExactReadPick.j1 kj4 t834 true t835 t830)))) else (some false)))) = some r := H
          have A26 := Aside0.mk A260
          clear A260
          replace H := Option.bind_eq_some_iff.mp H
          obtain ⟨t836, A270, H⟩ := H
          replace H : (if t836 < 0 then (some false) else (if t836 = t834 then ((impl_ReadPick.f kj4 a0).bind fun bt837 => ((laws_eqPick.f kj4 bt837.1 bt837.2.1 t821 t824).bind fun t843 => (if t843 = true then (laws_FnExactReadPick.j1 kj4 t834 (bt837.2.2 != t825) t835 t830) else (laws_FnExactReadPick.j1 kj4 t834 true t835 t830)))) else (some false))) = some r := H
          have A27 := Aside0.mk A270
          clear A270
          by_cases c28 : t836 < 0
          · rw [if_pos c28] at H
            have c28b0 : decide (t836 < 0) = true := decide_eq_true c28
            clear c28
            exact absurd ((Option.some.inj H).trans HT.out) (by decide)
          · rw [if_neg c28] at H
            have c28b0 : decide (t836 < 0) = false := decide_eq_false c28
            clear c28
            by_cases c29 : t836 = t834
            · rw [if_pos c29] at H
              have c29b0 : (t836 == t834) = true := beq_iff_eq.mpr c29
              have c29b1 : (t836 != t834) = false := bne_eq_false_iff_eq.mpr c29
              clear c29
              replace H := Option.bind_eq_some_iff.mp H
              obtain ⟨⟨t837, t840, t841⟩, A300, H⟩ := H
              replace H : ((laws_eqPick.f kj4 t837 t840 t821 t824).bind fun t843 => (if t843 = true then (laws_FnExactReadPick.j1 kj4 t834 (t841 != t825) t835 t830) else (laws_FnExactReadPick.j1 kj4 t834 true t835 t830))) = some r := H
              have A30 := Aside0.mk A300
              clear A300
              have HC31 := Aside0.mk H
              clear H
              have hnb32 := NB832_826.out
              have hnc32 := NB826_832.out
              have hcz33_0 : wc.cell? ⟨gb832, 0, none⟩ = some (.slice Ao12 t827.length co12) := (blk_cell BK832.out 0).trans rfl
              have hcz33_1 : wc.cell? ⟨gb832, 1, none⟩ = some (.int .i64 t830) := (blk_cell BK832.out 1).trans rfl
              have hfz33_0 := blk_frozen BK832.out 0
              have hfz33_1 := blk_frozen BK832.out 1
              go_upto_region 16 with (first | ((with_reducible refine gate_callee (f := 55) rfl ?_); refine goesL_ (some 35) rfl rfl Try.func55 (by kernel_rfl) rfl #[.agg #[.slice Ao12 t827.length co12, .int .i64 t830], .int .i64 1] rfl (by (try simp only [List.map_toArray, List.map_cons, List.map_nil]); first | done | rfl | (simp only [List.length_drop, List.length_take]; rfl)) ?_; (with_reducible refine (laws_markPick.calls kj4 (fun k_ => some k_ = (.slice Ao12 t827.length co12 : Value).ownBlock) (.slice Ao12 t827.length co12) t827 t830 1 t834 t835 w _ ?side1 ?side2 A26.out).mono ?_); (case side1 => repeat (first | (with_reducible first | exact HB.out | apply below_alloc | apply pw_below_drewN | apply below_drew1 | refine below_set ?_ GE826.out | refine below_set ?_ GE832.out) | exact HB.out)); (case side2 => exact Kd.R_tight rfl HO_833000.out); rintro e w34 ⟨rfl, hy0, hb, hkp⟩; refine ⟨_, rfl, ?_⟩; have n0_ := Aside0.mk (Kd.R_mono (ok' := fun k_ => some k_ ≠ (.slice Ao12 t827.length co12 : Value).ownBlock) (Kd.R_keptB (HO_827000.out) hkp (fun k_ hk_ hs_ => (hk_) hs_)) (fun k_ hk_ => hk_.1)); have n1_ := Aside0.mk (Kd.R_reok rfl hy0 (fun k_ e_ => HO_833000.out.1 k_ e_)); have n2_ := Aside0.mk (blk_kept (by (with_reducible repeat (first | refine blk_drewN ?_ _ | refine blk_drew ?_ | refine blk_alloc ?_ _)); exact BK826.out) hkp (fun hs_ => (fun e_ => (Kd.R_ne HO_833000.out BK826.out (by decide)) e_) hs_)); have n3_ := Aside0.mk (blk_kept (by (with_reducible repeat (first | refine blk_drewN ?_ _ | refine blk_drew ?_ | refine blk_alloc ?_ _)); exact BK832.out) hkp (fun hs_ => (fun e_ => (Kd.R_ne HO_833000.out BK832.out (by decide)) e_) hs_)); have n4_ := Aside0.mk (hb); clear HO_827000; clear HO_833000; clear BK826; clear BK832; clear HB; have HO_827000 := n0_; have HO_833000 := n1_; have BK826 := n2_; have BK832 := n3_; have HB := n4_; clear n0_ n1_ n2_ n3_ n4_; (try clear hb); (try clear hkp); (try clear hy0); have hcz35_0 : w34.cell? ⟨gb832, 0, none⟩ = some (.slice Ao12 t827.length co12) := (blk_cell BK832.out 0).trans rfl; have hcz35_1 : w34.cell? ⟨gb832, 1, none⟩ = some (.int .i64 t830) := (blk_cell BK832.out 1).trans rfl; have hfz35_0 := blk_frozen BK832.out 0; have hfz35_1 := blk_frozen BK832.out 1) | ((with_reducible refine gate_callee (f := 56) rfl ?_); refine goesL_ (some 38) rfl rfl Try.func56 (by kernel_rfl) rfl #[.agg #[.slice Ao12 t835.length co12, .int .i64 t830], .int .i64 1] rfl (by (try simp only [List.map_toArray, List.map_cons, List.map_nil]); first | done | (rw [show t835.length = t827.length from (Kd.R_reads' HO_833000.out).1.symm] <;> rfl) | rfl | (simp only [List.length_drop, List.length_take]; rfl)) ?_; (with_reducible refine (laws_heldPick.calls kj4 _ _ t835 t830 1 t836 _ ?side1 ?side2 A27.out).mono ?_); (case side1 => repeat (first | exact (Kd.R_reads' HO_833000.out).2.2 | (with_reducible refine Kd.C_alloc ?_ _) | (with_reducible refine Kd.C_drewN ?_ _) | (with_reducible refine Kd.C_drew ?_))); (case side2 => rw [show t835.length = t827.length from (Kd.R_reads' HO_833000.out).1.symm]; exact (Kd.R_reads' HO_833000.out).2.1); rintro e w36 ⟨rfl, hb⟩; refine ⟨_, rfl, ?_⟩; have n0_ := Aside0.mk (Kd.R_below (by (with_reducible repeat (first | apply Kd.R_alloc | apply Kd.R_drewN | apply Kd.R_drew)); exact HO_827000.out) hb); have n1_ := Aside0.mk (Kd.R_below (by (with_reducible repeat (first | apply Kd.R_alloc | apply Kd.R_drewN | apply Kd.R_drew)); exact HO_833000.out) hb); have n2_ := Aside0.mk (blk_below (g := gb826) (o := .cells #[.slice Ao8 t821.length co8, .int .i64 t824] 68 (0, 0)) (by (with_reducible repeat (first | refine blk_drewN ?_ _ | refine blk_drew ?_ | refine blk_alloc ?_ _)); exact BK826.out) hb); have n3_ := Aside0.mk (blk_below (g := gb832) (o := .cells #[.slice Ao12 t827.length co12, .int .i64 t830] 68 (0, 0)) (by (with_reducible repeat (first | refine blk_drewN ?_ _ | refine blk_drew ?_ | refine blk_alloc ?_ _)); exact BK832.out) hb); have n4_ := Aside0.mk (below_step (by repeat (first | (with_reducible first | exact HB.out | apply below_alloc | apply pw_below_drewN | apply below_drew1 | refine below_set ?_ GE826.out | refine below_set ?_ GE832.out) | exact HB.out)) hb); clear HO_827000; clear HO_833000; clear BK826; clear BK832; clear HB; have HO_827000 := n0_; have HO_833000 := n1_; have BK826 := n2_; have BK832 := n3_; have HB := n4_; clear n0_ n1_ n2_ n3_ n4_; (try clear hb); (try clear hb2); (try clear hk); (try clear hi)) | ((with_reducible refine gate_callee (f := 54) rfl ?_); refine goesL_ (some 46) rfl rfl Try.func54 (by kernel_rfl) rfl #[.string a0] rfl (by (try simp only [List.map_toArray, List.map_cons, List.map_nil]); first | done | rfl | (simp only [List.length_drop, List.length_take]; rfl)) ?_; (with_reducible refine (impl_ReadPick.calls kj4 a0 t837 t840 t841 _ A30.out).mono ?_); rintro e w37 ⟨v838, rfl, ho0, hb⟩; refine ⟨_, rfl, ?_⟩; have n0_ := Aside0.mk (Kd.R_elder' (by (with_reducible repeat (first | apply Kd.R_alloc | apply Kd.R_drewN | apply Kd.R_drew)); exact HO_827000.out) (Kd.R_base ho0) hb); have n1_ := Aside0.mk (Kd.R_elder' (by (with_reducible repeat (first | apply Kd.R_alloc | apply Kd.R_drewN | apply Kd.R_drew)); exact HO_833000.out) (Kd.R_base ho0) hb); have n2_ := Aside0.mk (Kd.R_lower (Kd.R_new' (Kd.R_new' ho0 (Kd.R_lt (by (with_reducible repeat (first | apply Kd.R_alloc | apply Kd.R_drewN | apply Kd.R_drew)); exact HO_827000.out))) (Kd.R_lt (by (with_reducible repeat (first | apply Kd.R_alloc | apply Kd.R_drewN | apply Kd.R_drew)); exact HO_833000.out))) (below_size (by repeat (first | (with_reducible first | exact HB.out | apply below_alloc | apply pw_below_drewN | apply below_drew1 | refine below_set ?_ GE826.out | refine below_set ?_ GE832.out) | exact HB.out)))); have n3_ := Aside0.mk (blk_below (g := gb826) (o := .cells #[.slice Ao8 t821.length co8, .int .i64 t824] 68 (0, 0)) (by (with_reducible repeat (first | refine blk_drewN ?_ _ | refine blk_drew ?_ | refine blk_alloc ?_ _)); exact BK826.out) hb); have n4_ := Aside0.mk (blk_below (g := gb832) (o := .cells #[.slice Ao12 t827.length co12, .int .i64 t830] 68 (0, 0)) (by (with_reducible repeat (first | refine blk_drewN ?_ _ | refine blk_drew ?_ | refine blk_alloc ?_ _)); exact BK832.out) hb); have n5_ := Aside0.mk (below_step (by repeat (first | (with_reducible first | exact HB.out | apply below_alloc | apply pw_below_drewN | apply below_drew1 | refine below_set ?_ GE826.out | refine below_set ?_ GE832.out) | exact HB.out)) hb); clear HO_827000; clear HO_833000; clear BK826; clear BK832; clear HB; have HO_827000 := n0_; have HO_833000 := n1_; have HO839 := n2_; have BK826 := n3_; have BK832 := n4_; have HB := n5_; clear n0_ n1_ n2_ n3_ n4_ n5_; (try clear hb); (try clear hb2); (try clear hk); (try clear hi); (try clear ho0)) | ((with_reducible refine gate_dst (N := 9) rfl ?_); refine box_event ?hg (N := 9) ?hd (cs := #[.slice none 0 0, .int .i64 0]) (t := 68) ?hr ?_; (case hd => rfl); (case hg => rfl); (case hr => first | (go_simp; done) | (go_simp; rfl)); intro gb842 hg w38 hbox hb; have n0_ := Aside0.mk (Kd.R_below (by (with_reducible repeat (first | apply Kd.R_alloc | apply Kd.R_drewN | apply Kd.R_drew)); exact HO_827000.out) hb); have n1_ := Aside0.mk (Kd.R_below (by (with_reducible repeat (first | apply Kd.R_alloc | apply Kd.R_drewN | apply Kd.R_drew)); exact HO_833000.out) hb); have n2_ := Aside0.mk (Kd.R_below (by (with_reducible repeat (first | apply Kd.R_alloc | apply Kd.R_drewN | apply Kd.R_drew)); exact HO839.out) hb); have n3_ := Aside0.mk (blk_below (g := gb826) (o := .cells #[.slice Ao8 t821.length co8, .int .i64 t824] 68 (0, 0)) (by (with_reducible repeat (first | refine blk_drewN ?_ _ | refine blk_drew ?_ | refine blk_alloc ?_ _)); exact BK826.out) hb); have n4_ := Aside0.mk (blk_below (g := gb832) (o := .cells #[.slice Ao12 t827.length co12, .int .i64 t830] 68 (0, 0)) (by (with_reducible repeat (first | refine blk_drewN ?_ _ | refine blk_drew ?_ | refine blk_alloc ?_ _)); exact BK832.out) hb); have n5_ := Aside0.mk (below_step (by repeat (first | (with_reducible first | exact HB.out | apply below_alloc | apply pw_below_drewN | apply below_drew1 | refine below_set ?_ GE826.out | refine below_set ?_ GE832.out) | exact HB.out)) hb); have n6_ := Aside0.mk (hbox); have n7_ := Aside0.mk ((by rw [hg]; exact (below_size (by repeat (first | (with_reducible first | exact HB.out | apply below_alloc | apply pw_below_drewN | apply below_drew1 | refine below_set ?_ GE826.out | refine below_set ?_ GE832.out) | exact HB.out))) : w.heap.size ≤ gb842)); have n8_ := Aside0.mk ((by rw [hg]; exact (below_size (by repeat (first | (with_reducible first | exact HB.out | apply below_alloc | apply pw_below_drewN | apply below_drew1 | refine below_set ?_ GE826.out | refine below_set ?_ GE832.out) | exact HB.out))) : w.heap.size ≤ gb842)); have n9_ := Aside0.mk ((by rw [hg]; exact Nat.ne_of_lt (blk_lt (g := gb826) (o := .cells #[.slice Ao8 t821.length co8, .int .i64 t824] 68 (0, 0)) (by (with_reducible repeat (first | refine blk_drewN ?_ _ | refine blk_drew ?_ | refine blk_alloc ?_ _)); exact BK826.out)) : gb826 ≠ gb842)); have n10_ := Aside0.mk ((by rw [hg]; exact Nat.ne_of_gt (blk_lt (g := gb826) (o := .cells #[.slice Ao8 t821.length co8, .int .i64 t824] 68 (0, 0)) (by (with_reducible repeat (first | refine blk_drewN ?_ _ | refine blk_drew ?_ | refine blk_alloc ?_ _)); exact BK826.out)) : gb842 ≠ gb826)); have n11_ := Aside0.mk ((by rw [hg]; exact Nat.ne_of_lt (blk_lt (g := gb832) (o := .cells #[.slice Ao12 t827.length co12, .int .i64 t830] 68 (0, 0)) (by (with_reducible repeat (first | refine blk_drewN ?_ _ | refine blk_drew ?_ | refine blk_alloc ?_ _)); exact BK832.out)) : gb832 ≠ gb842)); have n12_ := Aside0.mk ((by rw [hg]; exact Nat.ne_of_gt (blk_lt (g := gb832) (o := .cells #[.slice Ao12 t827.length co12, .int .i64 t830] 68 (0, 0)) (by (with_reducible repeat (first | refine blk_drewN ?_ _ | refine blk_drew ?_ | refine blk_alloc ?_ _)); exact BK832.out)) : gb842 ≠ gb832)); clear HO_827000; clear HO_833000; clear HO839; clear BK826; clear BK832; clear HB; have HO_827000 := n0_; have HO_833000 := n1_; have HO839 := n2_; have BK826 := n3_; have BK832 := n4_; have HB := n5_; have BK842 := n6_; have GW842 := n7_; have GE842 := n8_; have NB826_842 := n9_; have NB842_826 := n10_; have NB832_842 := n11_; have NB842_832 := n12_; clear n0_ n1_ n2_ n3_ n4_ n5_ n6_ n7_ n8_ n9_ n10_ n11_ n12_; clear hb hbox hg; obtain ⟨Ao39, co39, eo39⟩ := Kd.R_slice HO839.out; subst eo39; have hnb40 := NB842_826.out; have hnc40 := NB826_842.out; have hnb41 := NB842_832.out; have hnc41 := NB832_842.out; have hcz42_0 : w38.cell? ⟨gb842, 0, none⟩ = some (.slice none 0 0) := (blk_cell BK842.out 0).trans rfl; have hcz42_1 : w38.cell? ⟨gb842, 1, none⟩ = some (.int .i64 0) := (blk_cell BK842.out 1).trans rfl; have hfz42_0 := blk_frozen BK842.out 0; have hfz42_1 := blk_frozen BK842.out 1))
              (try simp only [Act.put, List.setIfInBounds_toArray, List.set_cons_zero, List.set_cons_succ])
              go_cut [57] (fun v57 wc => ∃ (kq : Nat) (x57_30 : Bool), v57 = .bool x57_30 ∧ Aside0 (laws_FnExactReadPick.j1 kq t834 x57_30 t835 t830 = some r) ∧ Aside0 (kq ≤ kj4) ∧ Aside0 (Kd.R (Kd.int .i64) 3 wc w.heap.size (fun k_ => some k_ ≠ ((.slice Ao12 t827.length co12) : Value).ownBlock ∧ some k_ ≠ ((.slice Ao39 t837.length co39) : Value).ownBlock) (.slice Ao8 t821.length co8) t821) ∧ Aside0 (Kd.R (Kd.int .i64) 3 wc w.heap.size (fun k_ => some k_ ≠ ((.slice Ao8 t821.length co8) : Value).ownBlock ∧ some k_ ≠ ((.slice Ao39 t837.length co39) : Value).ownBlock) (.slice Ao12 t827.length co12) t835) ∧ Aside0 (Kd.R (Kd.int .i64) 3 wc w.heap.size (fun k_ => some k_ ≠ ((.slice Ao8 t821.length co8) : Value).ownBlock ∧ some k_ ≠ ((.slice Ao12 t827.length co12) : Value).ownBlock) (.slice Ao39 t837.length co39) t837) ∧ Aside0 (wc.heap[gb826]? = some (.cells #[(.slice Ao8 t821.length co8), .int .i64 t824] 68 (0, 0))) ∧ Aside0 (wc.heap[gb832]? = some (.cells #[(.slice Ao12 t827.length co12), .int .i64 t830] 68 (0, 0))) ∧ Aside0 (wc.heap[gb842]? = some (.cells #[(.slice Ao39 t837.length co39), .int .i64 t840] 68 (0, 0))) ∧ Aside0 (Below w.heap.size w wc))
              case first =>
                have H := HC31.out
                clear HC31
                replace H := Option.bind_eq_some_iff.mp H
                obtain ⟨t843, A430, H⟩ := H
                replace H : (if t843 = true then (laws_FnExactReadPick.j1 kj4 t834 (t841 != t825) t835 t830) else (laws_FnExactReadPick.j1 kj4 t834 true t835 t830)) = some r := H
                have A43 := Aside0.mk A430
                clear A430
                by_cases c44 : t843 = true
                · subst c44
                  have H1 : (laws_FnExactReadPick.j1 kj4 t834 (t841 != t825) t835 t830) = some r := by rw [if_pos rfl] at H; exact H
                  clear H
                  have H := H1
                  clear H1
                  have H' := Aside0.mk H
                  clear H
                  have hnb45 := NB842_826.out
                  have hnc45 := NB826_842.out
                  have hnb46 := NB842_832.out
                  have hnc46 := NB832_842.out
                  have hcz47_0 : w38.cell? ⟨gb842, 0, none⟩ = some (.slice none 0 0) := (blk_cell BK842.out 0).trans rfl
                  have hcz47_1 : w38.cell? ⟨gb842, 1, none⟩ = some (.int .i64 0) := (blk_cell BK842.out 1).trans rfl
                  have hfz47_0 := blk_frozen BK842.out 0
                  have hfz47_1 := blk_frozen BK842.out 1
                  have hnb48 := NB826_832.out
                  have hnc48 := NB832_826.out
                  have hcz49_0 : w38.cell? ⟨gb826, 0, none⟩ = some (.slice Ao8 t821.length co8) := (blk_cell BK826.out 0).trans rfl
                  have hcz49_1 : w38.cell? ⟨gb826, 1, none⟩ = some (.int .i64 t824) := (blk_cell BK826.out 1).trans rfl
                  have hfz49_0 := blk_frozen BK826.out 0
                  have hfz49_1 := blk_frozen BK826.out 1
                  go_wp2_with (first | ((with_reducible refine gate_callee (f := 52) rfl ?_); refine goesL_ (some 51) rfl rfl Try.func52 (by kernel_rfl) rfl #[.agg #[.slice Ao39 t837.length co39, .int .i64 t840], .agg #[.slice Ao8 t821.length co8, .int .i64 t824]] rfl (by (try simp only [List.map_toArray, List.map_cons, List.map_nil]); first | done | rfl | (simp only [List.length_drop, List.length_take]; rfl)) ?_; (with_reducible refine (laws_eqPick.calls kj4 _ _ t837 t840 _ _ t821 t824 true _ ?side1 ?side2 ?side3 ?side4 A43.out).mono ?_); (case side1 => refine (Kd.R_reads' (e := 3) (base := w.heap.size) (ok := fun k_ => ((True ∧ some k_ ≠ (.slice Ao8 t821.length co8 : Value).ownBlock) ∧ some k_ ≠ (.slice Ao12 t827.length co12 : Value).ownBlock)) (n := t837.length) (c := co39) ?_).2.2; exact (by (with_reducible repeat (first | apply Kd.R_alloc | apply Kd.R_drewN | apply Kd.R_drew)); exact (Kd.R_mono (Kd.R_far (p := ⟨gb842, 1, none⟩) (Kd.R_far (p := ⟨gb842, 0, none⟩) (Kd.R_types HO839.out BK842.out (by decide)) (fun _ hk => hk.2) (.slice Ao39 t837.length co39)) (fun _ hk => hk.2) (.int .i64 t840)) (fun _ h_ => h_.1)))); (case side2 => exact (Kd.R_reads' HO839.out).2.1); (case side3 => refine (Kd.R_reads' (e := 3) (base := w.heap.size) (ok := fun k_ => (some k_ ≠ (.slice Ao12 t827.length co12 : Value).ownBlock ∧ some k_ ≠ (.slice Ao39 t837.length co39 : Value).ownBlock)) (n := t821.length) (c := co8) ?_).2.2; exact (by (with_reducible repeat (first | apply Kd.R_alloc | apply Kd.R_drewN | apply Kd.R_drew)); exact (Kd.R_mono (Kd.R_far (p := ⟨gb842, 1, none⟩) (Kd.R_far (p := ⟨gb842, 0, none⟩) (Kd.R_types HO_827000.out BK842.out (by decide)) (fun _ hk => hk.2) (.slice Ao39 t837.length co39)) (fun _ hk => hk.2) (.int .i64 t840)) (fun _ h_ => h_.1)))); (case side4 => exact (Kd.R_reads' HO_827000.out).2.1); rintro e w50 ⟨rfl, hb⟩; refine ⟨_, rfl, ?_⟩; have n0_ := Aside0.mk (Kd.R_below (by (with_reducible repeat (first | apply Kd.R_alloc | apply Kd.R_drewN | apply Kd.R_drew)); exact (Kd.R_mono (Kd.R_far (p := ⟨gb842, 1, none⟩) (Kd.R_far (p := ⟨gb842, 0, none⟩) (Kd.R_types HO_827000.out BK842.out (by decide)) (fun _ hk => hk.2) (.slice Ao39 t837.length co39)) (fun _ hk => hk.2) (.int .i64 t840)) (fun _ h_ => h_.1))) hb); have n1_ := Aside0.mk (Kd.R_below (by (with_reducible repeat (first | apply Kd.R_alloc | apply Kd.R_drewN | apply Kd.R_drew)); exact (Kd.R_mono (Kd.R_far (p := ⟨gb842, 1, none⟩) (Kd.R_far (p := ⟨gb842, 0, none⟩) (Kd.R_types HO_833000.out BK842.out (by decide)) (fun _ hk => hk.2) (.slice Ao39 t837.length co39)) (fun _ hk => hk.2) (.int .i64 t840)) (fun _ h_ => h_.1))) hb); have n2_ := Aside0.mk (Kd.R_below (by (with_reducible repeat (first | apply Kd.R_alloc | apply Kd.R_drewN | apply Kd.R_drew)); exact (Kd.R_mono (Kd.R_far (p := ⟨gb842, 1, none⟩) (Kd.R_far (p := ⟨gb842, 0, none⟩) (Kd.R_types HO839.out BK842.out (by decide)) (fun _ hk => hk.2) (.slice Ao39 t837.length co39)) (fun _ hk => hk.2) (.int .i64 t840)) (fun _ h_ => h_.1))) hb); have n3_ := Aside0.mk (blk_below (g := gb826) (o := .cells #[.slice Ao8 t821.length co8, .int .i64 t824] 68 (0, 0)) (by (with_reducible repeat (first | refine blk_drewN ?_ _ | refine blk_drew ?_ | refine blk_alloc ?_ _)); refine blk_far ?_ NB826_842.out _; (with_reducible repeat (first | refine blk_drewN ?_ _ | refine blk_drew ?_ | refine blk_alloc ?_ _)); refine blk_far ?_ NB826_842.out _; (with_reducible repeat (first | refine blk_drewN ?_ _ | refine blk_drew ?_ | refine blk_alloc ?_ _)); exact BK826.out) hb); have n4_ := Aside0.mk (blk_below (g := gb832) (o := .cells #[.slice Ao12 t827.length co12, .int .i64 t830] 68 (0, 0)) (by (with_reducible repeat (first | refine blk_drewN ?_ _ | refine blk_drew ?_ | refine blk_alloc ?_ _)); refine blk_far ?_ NB832_842.out _; (with_reducible repeat (first | refine blk_drewN ?_ _ | refine blk_drew ?_ | refine blk_alloc ?_ _)); refine blk_far ?_ NB832_842.out _; (with_reducible repeat (first | refine blk_drewN ?_ _ | refine blk_drew ?_ | refine blk_alloc ?_ _)); exact BK832.out) hb); have n5_ := Aside0.mk (blk_below (g := gb842) (o := .cells #[.slice Ao39 t837.length co39, .int .i64 t840] 68 (0, 0)) (by (with_reducible repeat (first | refine blk_drewN ?_ _ | refine blk_drew ?_ | refine blk_alloc ?_ _)); refine blk_put (cs := #[.slice Ao39 t837.length co39, .int .i64 0]) ?_ 1 _ rfl; (with_reducible repeat (first | refine blk_drewN ?_ _ | refine blk_drew ?_ | refine blk_alloc ?_ _)); refine blk_put (cs := #[.slice none 0 0, .int .i64 0]) ?_ 0 _ rfl; (with_reducible repeat (first | refine blk_drewN ?_ _ | refine blk_drew ?_ | refine blk_alloc ?_ _)); exact BK842.out) hb); have n6_ := Aside0.mk (below_step (by repeat (first | (with_reducible first | exact HB.out | apply below_alloc | apply pw_below_drewN | apply below_drew1 | refine below_set ?_ GE826.out | refine below_set ?_ GE832.out | refine below_set ?_ GE842.out) | exact HB.out)) hb); clear HO_827000; clear HO_833000; clear HO839; clear BK826; clear BK832; clear BK842; clear HB; have HO_827000 := n0_; have HO_833000 := n1_; have HO839 := n2_; have BK826 := n3_; have BK832 := n4_; have BK842 := n5_; have HB := n6_; clear n0_ n1_ n2_ n3_ n4_ n5_ n6_; (try clear hb); (try clear hb2); (try clear hk); (try clear hi)))
                  go_meet
                  case rel => exact ⟨_, ((t841 != t825)), (by first | rfl | (simp; done) | (simp [*]; done)), H', ⟨by have := HJ4.out; first | omega | exact Nat.le_refl _⟩, ⟨by (with_reducible repeat (first | apply Kd.R_alloc | apply Kd.R_drewN | apply Kd.R_drew)); exact HO_827000.out⟩, ⟨by (with_reducible repeat (first | apply Kd.R_alloc | apply Kd.R_drewN | apply Kd.R_drew)); exact HO_833000.out⟩, ⟨by (with_reducible repeat (first | apply Kd.R_alloc | apply Kd.R_drewN | apply Kd.R_drew)); exact Kd.R_mono HO839.out (fun _ hk => ⟨hk.1.2, hk.2⟩)⟩, ⟨by (with_reducible repeat (first | refine blk_drewN ?_ _ | refine blk_drew ?_ | refine blk_alloc ?_ _)); exact BK826.out⟩, ⟨by (with_reducible repeat (first | refine blk_drewN ?_ _ | refine blk_drew ?_ | refine blk_alloc ?_ _)); exact BK832.out⟩, ⟨by (with_reducible repeat (first | refine blk_drewN ?_ _ | refine blk_drew ?_ | refine blk_alloc ?_ _)); exact BK842.out⟩, ⟨by repeat (first | (with_reducible first | exact HB.out | apply below_alloc | apply pw_below_drewN | apply below_drew1 | refine below_set ?_ GE826.out | refine below_set ?_ GE832.out | refine below_set ?_ GE842.out) | exact HB.out)⟩⟩
                · replace c44 := Bool.eq_false_iff.mpr c44
                  subst c44
                  have H1 : (laws_FnExactReadPick.j1 kj4 t834 true t835 t830) = some r := by rw [if_neg (show ¬ (false = true) by decide)] at H; exact H
                  clear H
                  have H := H1
                  clear H1
                  have H' := Aside0.mk H
                  clear H
                  have hnb51 := NB842_826.out
                  have hnc51 := NB826_842.out
                  have hnb52 := NB842_832.out
                  have hnc52 := NB832_842.out
                  have hcz53_0 : w38.cell? ⟨gb842, 0, none⟩ = some (.slice none 0 0) := (blk_cell BK842.out 0).trans rfl
                  have hcz53_1 : w38.cell? ⟨gb842, 1, none⟩ = some (.int .i64 0) := (blk_cell BK842.out 1).trans rfl
                  have hfz53_0 := blk_frozen BK842.out 0
                  have hfz53_1 := blk_frozen BK842.out 1
                  have hnb54 := NB826_832.out
                  have hnc54 := NB832_826.out
                  have hcz55_0 : w38.cell? ⟨gb826, 0, none⟩ = some (.slice Ao8 t821.length co8) := (blk_cell BK826.out 0).trans rfl
                  have hcz55_1 : w38.cell? ⟨gb826, 1, none⟩ = some (.int .i64 t824) := (blk_cell BK826.out 1).trans rfl
                  have hfz55_0 := blk_frozen BK826.out 0
                  have hfz55_1 := blk_frozen BK826.out 1
                  go_wp2_with (first | ((with_reducible refine gate_callee (f := 52) rfl ?_); refine goesL_ (some 51) rfl rfl Try.func52 (by kernel_rfl) rfl #[.agg #[.slice Ao39 t837.length co39, .int .i64 t840], .agg #[.slice Ao8 t821.length co8, .int .i64 t824]] rfl (by (try simp only [List.map_toArray, List.map_cons, List.map_nil]); first | done | rfl | (simp only [List.length_drop, List.length_take]; rfl)) ?_; (with_reducible refine (laws_eqPick.calls kj4 _ _ t837 t840 _ _ t821 t824 false _ ?side1 ?side2 ?side3 ?side4 A43.out).mono ?_); (case side1 => refine (Kd.R_reads' (e := 3) (base := w.heap.size) (ok := fun k_ => ((True ∧ some k_ ≠ (.slice Ao8 t821.length co8 : Value).ownBlock) ∧ some k_ ≠ (.slice Ao12 t827.length co12 : Value).ownBlock)) (n := t837.length) (c := co39) ?_).2.2; exact (by (with_reducible repeat (first | apply Kd.R_alloc | apply Kd.R_drewN | apply Kd.R_drew)); exact (Kd.R_mono (Kd.R_far (p := ⟨gb842, 1, none⟩) (Kd.R_far (p := ⟨gb842, 0, none⟩) (Kd.R_types HO839.out BK842.out (by decide)) (fun _ hk => hk.2) (.slice Ao39 t837.length co39)) (fun _ hk => hk.2) (.int .i64 t840)) (fun _ h_ => h_.1)))); (case side2 => exact (Kd.R_reads' HO839.out).2.1); (case side3 => refine (Kd.R_reads' (e := 3) (base := w.heap.size) (ok := fun k_ => (some k_ ≠ (.slice Ao12 t827.length co12 : Value).ownBlock ∧ some k_ ≠ (.slice Ao39 t837.length co39 : Value).ownBlock)) (n := t821.length) (c := co8) ?_).2.2; exact (by (with_reducible repeat (first | apply Kd.R_alloc | apply Kd.R_drewN | apply Kd.R_drew)); exact (Kd.R_mono (Kd.R_far (p := ⟨gb842, 1, none⟩) (Kd.R_far (p := ⟨gb842, 0, none⟩) (Kd.R_types HO_827000.out BK842.out (by decide)) (fun _ hk => hk.2) (.slice Ao39 t837.length co39)) (fun _ hk => hk.2) (.int .i64 t840)) (fun _ h_ => h_.1)))); (case side4 => exact (Kd.R_reads' HO_827000.out).2.1); rintro e w56 ⟨rfl, hb⟩; refine ⟨_, rfl, ?_⟩; have n0_ := Aside0.mk (Kd.R_below (by (with_reducible repeat (first | apply Kd.R_alloc | apply Kd.R_drewN | apply Kd.R_drew)); exact (Kd.R_mono (Kd.R_far (p := ⟨gb842, 1, none⟩) (Kd.R_far (p := ⟨gb842, 0, none⟩) (Kd.R_types HO_827000.out BK842.out (by decide)) (fun _ hk => hk.2) (.slice Ao39 t837.length co39)) (fun _ hk => hk.2) (.int .i64 t840)) (fun _ h_ => h_.1))) hb); have n1_ := Aside0.mk (Kd.R_below (by (with_reducible repeat (first | apply Kd.R_alloc | apply Kd.R_drewN | apply Kd.R_drew)); exact (Kd.R_mono (Kd.R_far (p := ⟨gb842, 1, none⟩) (Kd.R_far (p := ⟨gb842, 0, none⟩) (Kd.R_types HO_833000.out BK842.out (by decide)) (fun _ hk => hk.2) (.slice Ao39 t837.length co39)) (fun _ hk => hk.2) (.int .i64 t840)) (fun _ h_ => h_.1))) hb); have n2_ := Aside0.mk (Kd.R_below (by (with_reducible repeat (first | apply Kd.R_alloc | apply Kd.R_drewN | apply Kd.R_drew)); exact (Kd.R_mono (Kd.R_far (p := ⟨gb842, 1, none⟩) (Kd.R_far (p := ⟨gb842, 0, none⟩) (Kd.R_types HO839.out BK842.out (by decide)) (fun _ hk => hk.2) (.slice Ao39 t837.length co39)) (fun _ hk => hk.2) (.int .i64 t840)) (fun _ h_ => h_.1))) hb); have n3_ := Aside0.mk (blk_below (g := gb826) (o := .cells #[.slice Ao8 t821.length co8, .int .i64 t824] 68 (0, 0)) (by (with_reducible repeat (first | refine blk_drewN ?_ _ | refine blk_drew ?_ | refine blk_alloc ?_ _)); refine blk_far ?_ NB826_842.out _; (with_reducible repeat (first | refine blk_drewN ?_ _ | refine blk_drew ?_ | refine blk_alloc ?_ _)); refine blk_far ?_ NB826_842.out _; (with_reducible repeat (first | refine blk_drewN ?_ _ | refine blk_drew ?_ | refine blk_alloc ?_ _)); exact BK826.out) hb); have n4_ := Aside0.mk (blk_below (g := gb832) (o := .cells #[.slice Ao12 t827.length co12, .int .i64 t830] 68 (0, 0)) (by (with_reducible repeat (first | refine blk_drewN ?_ _ | refine blk_drew ?_ | refine blk_alloc ?_ _)); refine blk_far ?_ NB832_842.out _; (with_reducible repeat (first | refine blk_drewN ?_ _ | refine blk_drew ?_ | refine blk_alloc ?_ _)); refine blk_far ?_ NB832_842.out _; (with_reducible repeat (first | refine blk_drewN ?_ _ | refine blk_drew ?_ | refine blk_alloc ?_ _)); exact BK832.out) hb); have n5_ := Aside0.mk (blk_below (g := gb842) (o := .cells #[.slice Ao39 t837.length co39, .int .i64 t840] 68 (0, 0)) (by (with_reducible repeat (first | refine blk_drewN ?_ _ | refine blk_drew ?_ | refine blk_alloc ?_ _)); refine blk_put (cs := #[.slice Ao39 t837.length co39, .int .i64 0]) ?_ 1 _ rfl; (with_reducible repeat (first | refine blk_drewN ?_ _ | refine blk_drew ?_ | refine blk_alloc ?_ _)); refine blk_put (cs := #[.slice none 0 0, .int .i64 0]) ?_ 0 _ rfl; (with_reducible repeat (first | refine blk_drewN ?_ _ | refine blk_drew ?_ | refine blk_alloc ?_ _)); exact BK842.out) hb); have n6_ := Aside0.mk (below_step (by repeat (first | (with_reducible first | exact HB.out | apply below_alloc | apply pw_below_drewN | apply below_drew1 | refine below_set ?_ GE826.out | refine below_set ?_ GE832.out | refine below_set ?_ GE842.out) | exact HB.out)) hb); clear HO_827000; clear HO_833000; clear HO839; clear BK826; clear BK832; clear BK842; clear HB; have HO_827000 := n0_; have HO_833000 := n1_; have HO839 := n2_; have BK826 := n3_; have BK832 := n4_; have BK842 := n5_; have HB := n6_; clear n0_ n1_ n2_ n3_ n4_ n5_ n6_; (try clear hb); (try clear hb2); (try clear hk); (try clear hi)))
                  go_meet
                  case rel => exact ⟨_, (true), (by first | rfl | (simp; done) | (simp [*]; done)), H', ⟨by have := HJ4.out; first | omega | exact Nat.le_refl _⟩, ⟨by (with_reducible repeat (first | apply Kd.R_alloc | apply Kd.R_drewN | apply Kd.R_drew)); exact HO_827000.out⟩, ⟨by (with_reducible repeat (first | apply Kd.R_alloc | apply Kd.R_drewN | apply Kd.R_drew)); exact HO_833000.out⟩, ⟨by (with_reducible repeat (first | apply Kd.R_alloc | apply Kd.R_drewN | apply Kd.R_drew)); exact Kd.R_mono HO839.out (fun _ hk => ⟨hk.1.2, hk.2⟩)⟩, ⟨by (with_reducible repeat (first | refine blk_drewN ?_ _ | refine blk_drew ?_ | refine blk_alloc ?_ _)); exact BK826.out⟩, ⟨by (with_reducible repeat (first | refine blk_drewN ?_ _ | refine blk_drew ?_ | refine blk_alloc ?_ _)); exact BK832.out⟩, ⟨by (with_reducible repeat (first | refine blk_drewN ?_ _ | refine blk_drew ?_ | refine blk_alloc ?_ _)); exact BK842.out⟩, ⟨by repeat (first | (with_reducible first | exact HB.out | apply below_alloc | apply pw_below_drewN | apply below_drew1 | refine below_set ?_ GE826.out | refine below_set ?_ GE832.out | refine below_set ?_ GE842.out) | exact HB.out)⟩⟩
              case rest =>
                clear HC31
                try clear c1
                try clear c2
                try clear c2b0
                try clear c2b1
                try clear p2
                try clear c3
                try clear c4
                try clear c5
                try clear c13
                try clear c14
                try clear c16
                try clear c17
                try clear c21
                try clear c25
                try clear c28
                try clear c28b0
                try clear c29
                try clear c29b0
                try clear c29b1
                try clear c32
                try clear c40
                try clear c41
                try clear c44
                try clear c45
                try clear c46
                try clear c48
                try clear c51
                try clear c52
                try clear c53
                try clear c54
                try clear c55
                try clear c56
                try clear hcz14_0
                try clear hcz14_1
                try clear hcz18_0
                try clear hcz18_1
                try clear hcz19_0
                try clear hcz19_1
                try clear hcz22_0
                try clear hcz22_1
                try clear hcz23_0
                try clear hcz23_1
                try clear hcz33_0
                try clear hcz33_1
                try clear hcz35_0
                try clear hcz35_1
                try clear hcz42_0
                try clear hcz42_1
                try clear hcz47_0
                try clear hcz47_1
                try clear hcz49_0
                try clear hcz49_1
                try clear hcz53_0
                try clear hcz53_1
                try clear hcz55_0
                try clear hcz55_1
                try clear hcz9_0
                try clear hcz9_1
                try clear hfz14_0
                try clear hfz14_1
                try clear hfz18_0
                try clear hfz18_1
                try clear hfz19_0
                try clear hfz19_1
                try clear hfz22_0
                try clear hfz22_1
                try clear hfz23_0
                try clear hfz23_1
                try clear hfz33_0
                try clear hfz33_1
                try clear hfz35_0
                try clear hfz35_1
                try clear hfz42_0
                try clear hfz42_1
                try clear hfz47_0
                try clear hfz47_1
                try clear hfz49_0
                try clear hfz49_1
                try clear hfz53_0
                try clear hfz53_1
                try clear hfz55_0
                try clear hfz55_1
                try clear hfz9_0
                try clear hfz9_1
                try clear p2
                obtain ⟨kq, x57_30, rfl, HA, HJ30, HO_827000, HO_833000, HO_843000, BK826, BK832, BK842, HB⟩ := hcut
                have hl833000_30 := (Kd.R_reads' HO_833000.out).1
                rw [hl833000_30] at HO_833000
                (try simp only [hl833000_30])
                (try simp only [hl833000_30] at BK826)
                (try simp only [hl833000_30] at BK832)
                (try simp only [hl833000_30] at BK842)
                (try simp only [hl833000_30] at HO_827000)
                (try simp only [hl833000_30] at HO_843000)
                cases kq with
                | zero => exact absurd HA.out (by simp [laws_FnExactReadPick.j1])
                | succ kj30 =>
                  have H := HA.out
                  clear HA
                  simp only [laws_FnExactReadPick.j1] at H
                  by_cases c57 : x57_30 = true
                  · subst c57
                    have H1 : (some false) = some r := by rw [if_pos rfl] at H; exact H
                    clear H
                    have H := H1
                    clear H1
                    exact absurd ((Option.some.inj H).trans HT.out) (by decide)
                  · replace c57 := Bool.eq_false_iff.mpr c57
                    subst c57
                    have H1 : ((laws_heldPick.f kj30 t835 t830 1).bind fun t844 => (if t844 < 0 then (some false) else (if t844 = t834 then (some true) else (some false)))) = some r := by rw [if_neg (show ¬ (false = true) by decide)] at H; exact H
                    clear H
                    have H := H1
                    clear H1
                    replace H := Option.bind_eq_some_iff.mp H
                    obtain ⟨t844, A580, H⟩ := H
                    replace H : (if t844 < 0 then (some false) else (if t844 = t834 then (some true) else (some false))) = some r := H
                    have A58 := Aside0.mk A580
                    clear A580
                    by_cases c59 : t844 < 0
                    · rw [if_pos c59] at H
                      have c59b0 : decide (t844 < 0) = true := decide_eq_true c59
                      clear c59
                      exact absurd ((Option.some.inj H).trans HT.out) (by decide)
                    · rw [if_neg c59] at H
                      have c59b0 : decide (t844 < 0) = false := decide_eq_false c59
                      clear c59
                      by_cases c60 : t844 = t834
                      · rw [if_pos c60] at H
                        have c60b0 : (t844 == t834) = true := beq_iff_eq.mpr c60
                        have c60b1 : (t844 != t834) = false := bne_eq_false_iff_eq.mpr c60
                        clear c60
                        obtain rfl := Option.some.inj H
                        have hnb61 := NB832_826.out
                        have hnc61 := NB826_832.out
                        have hnb62 := NB832_842.out
                        have hnc62 := NB842_832.out
                        have hcz63_0 : wc.cell? ⟨gb832, 0, none⟩ = some (.slice Ao12 t835.length co12) := (blk_cell BK832.out 0).trans rfl
                        have hcz63_1 : wc.cell? ⟨gb832, 1, none⟩ = some (.int .i64 t830) := (blk_cell BK832.out 1).trans rfl
                        have hfz63_0 := blk_frozen BK832.out 0
                        have hfz63_1 := blk_frozen BK832.out 1
                        go_wp2_with (first | ((with_reducible refine gate_callee (f := 56) rfl ?_); refine goesL_ (some 60) rfl rfl Try.func56 (by kernel_rfl) rfl #[.agg #[.slice Ao12 t835.length co12, .int .i64 t830], .int .i64 1] rfl (by (try simp only [List.map_toArray, List.map_cons, List.map_nil]); first | done | rfl | (simp only [List.length_drop, List.length_take]; rfl)) ?_; (with_reducible refine (laws_heldPick.calls kj30 _ _ t835 t830 1 t844 _ ?side1 ?side2 A58.out).mono ?_); (case side1 => repeat (first | exact (Kd.R_reads' HO_833000.out).2.2 | (with_reducible refine Kd.C_alloc ?_ _) | (with_reducible refine Kd.C_drewN ?_ _) | (with_reducible refine Kd.C_drew ?_))); (case side2 => exact (Kd.R_reads' HO_833000.out).2.1); rintro e w64 ⟨rfl, hb⟩; refine ⟨_, rfl, ?_⟩; have n0_ := Aside0.mk (Kd.R_below (by (with_reducible repeat (first | apply Kd.R_alloc | apply Kd.R_drewN | apply Kd.R_drew)); exact HO_827000.out) hb); have n1_ := Aside0.mk (Kd.R_below (by (with_reducible repeat (first | apply Kd.R_alloc | apply Kd.R_drewN | apply Kd.R_drew)); exact HO_833000.out) hb); have n2_ := Aside0.mk (Kd.R_below (by (with_reducible repeat (first | apply Kd.R_alloc | apply Kd.R_drewN | apply Kd.R_drew)); exact HO_843000.out) hb); have n3_ := Aside0.mk (blk_below (g := gb826) (o := .cells #[.slice Ao8 t821.length co8, .int .i64 t824] 68 (0, 0)) (by (with_reducible repeat (first | refine blk_drewN ?_ _ | refine blk_drew ?_ | refine blk_alloc ?_ _)); exact BK826.out) hb); have n4_ := Aside0.mk (blk_below (g := gb832) (o := .cells #[.slice Ao12 t835.length co12, .int .i64 t830] 68 (0, 0)) (by (with_reducible repeat (first | refine blk_drewN ?_ _ | refine blk_drew ?_ | refine blk_alloc ?_ _)); exact BK832.out) hb); have n5_ := Aside0.mk (blk_below (g := gb842) (o := .cells #[.slice Ao39 t837.length co39, .int .i64 t840] 68 (0, 0)) (by (with_reducible repeat (first | refine blk_drewN ?_ _ | refine blk_drew ?_ | refine blk_alloc ?_ _)); exact BK842.out) hb); have n6_ := Aside0.mk (below_step (by repeat (first | (with_reducible first | exact HB.out | apply below_alloc | apply pw_below_drewN | apply below_drew1 | refine below_set ?_ GE826.out | refine below_set ?_ GE832.out | refine below_set ?_ GE842.out) | exact HB.out)) hb); clear HO_827000; clear HO_833000; clear HO_843000; clear BK826; clear BK832; clear BK842; clear HB; have HO_827000 := n0_; have HO_833000 := n1_; have HO_843000 := n2_; have BK826 := n3_; have BK832 := n4_; have BK842 := n5_; have HB := n6_; clear n0_ n1_ n2_ n3_ n4_ n5_ n6_; (try clear hb); (try clear hb2); (try clear hk); (try clear hi)))
                        go_ret
                        exact ⟨by first | rfl | (simp [errW_none, errW_some] <;> rfl) | (simp [*, errW_none, errW_some] <;> rfl), by repeat (first | (with_reducible first | exact HB.out | apply below_alloc | apply pw_below_drewN | apply below_drew1 | refine below_set ?_ GE826.out | refine below_set ?_ GE832.out | refine below_set ?_ GE842.out) | exact HB.out)⟩
                      · rw [if_neg c60] at H
                        have c60b0 : (t844 == t834) = false := beq_eq_false_iff_ne.mpr c60
                        have c60b1 : (t844 != t834) = true := bne_iff_ne.mpr c60
                        exact absurd ((Option.some.inj H).trans HT.out) (by decide)
            · rw [if_neg c29] at H
              have c29b0 : (t836 == t834) = false := beq_eq_false_iff_ne.mpr c29
              have c29b1 : (t836 != t834) = true := bne_iff_ne.mpr c29
              exact absurd ((Option.some.inj H).trans HT.out) (by decide)

end Go.Proofs.Yteagogcpbcickaa.G
/- Plain lemmas about rounds, whole numbers, lists and strings, for the pure statements of this seat. Conditions: each lemma's own hypotheses. -/
set_option linter.unusedSimpArgs false
set_option linter.unusedVariables false
namespace Go.Proofs.Yteagogcpbcickaa.Pure
open Go.RowKit Go.Proofs.YteagogcpbcickaaW.PrintWords Go.Proofs.YteagogcpbcickaaW.PrintLast Go.Proofs.YteagogcpbcickaaW.PrintMore

/-- A loop that goes n rounds from state 0 on and then tells r. -/
theorem rounds {R : Type} (L : Nat → Nat → Option R) (n : Nat) (r : R) (step : ∀ k i, i < n → L (k + 1) i = L k (i + 1)) (stop : ∀ k, L (k + 1) n = some r) : ∀ k, n < k → L k 0 = some r := by
  have h : ∀ d i k, i + d = n → d < k → L k i = some r := by
    intro d
    induction d with
    | zero =>
      intro i k hi hk
      obtain ⟨k, rfl⟩ : ∃ m, k = m + 1 := ⟨k - 1, by omega⟩
      obtain rfl : i = n := by omega
      exact stop k
    | succ d ih =>
      intro i k hi hk
      obtain ⟨k, rfl⟩ : ∃ m, k = m + 1 := ⟨k - 1, by omega⟩
      rw [step k i (by omega)]
      exact ih (i + 1) k (by omega) (by omega)
  exact fun k hk => h n 0 k (by omega) hk
/-- The same where each round, and the end, asks for m rounds more (calls inside). -/
theorem rounds_ {R : Type} (m : Nat) (L : Nat → Nat → Option R) (n : Nat) (r : R) (step : ∀ k i, m ≤ k → i < n → L (k + 1) i = L k (i + 1)) (stop : ∀ k, m ≤ k → L (k + 1) n = some r) : ∀ k, n + m < k → L k 0 = some r := by
  have h : ∀ d i k, i + d = n → d + m < k → L k i = some r := by
    intro d
    induction d with
    | zero =>
      intro i k hi hk
      obtain ⟨k, rfl⟩ : ∃ m, k = m + 1 := ⟨k - 1, by omega⟩
      obtain rfl : i = n := by omega
      exact stop k (by omega)
    | succ d ih =>
      intro i k hi hk
      obtain ⟨k, rfl⟩ : ∃ m, k = m + 1 := ⟨k - 1, by omega⟩
      rw [step k i (by omega) (by omega)]
      exact ih (i + 1) k (by omega) (by omega)
  exact fun k hk => h n 0 k (by omega) hk
/-- A loop that goes on while p holds: where it ends, and with how many rounds left. -/
theorem rounds_to {R : Type} (L : Nat → Nat → R) (n : Nat) (p : Nat → Bool) (S E : Nat → R) (step : ∀ k i, i < n → (∀ j, j < i → p j = true) → p i = true → L (k + 1) i = L k (i + 1))
    (exit : ∀ k i, i < n → (∀ j, j < i → p j = true) → p i = false → L (k + 1) i = E k) (stop : ∀ k, (∀ j, j < n → p j = true) → L (k + 1) n = S k) :
    ∀ k, n < k → ∃ j, k - n - 1 ≤ j ∧ j < k ∧ L k 0 = if (List.range n).all p then S j else E j := by
  have h : ∀ d i k, i + d = n → d < k → (∀ j, j < i → p j = true) → ∃ j, k - d - 1 ≤ j ∧ j < k ∧ L k i = if (List.range n).all p then S j else E j := by
    intro d
    induction d with
    | zero =>
      intro i k hi hk hp
      obtain ⟨k, rfl⟩ : ∃ m, k = m + 1 := ⟨k - 1, by omega⟩
      obtain rfl : i = n := by omega
      refine ⟨k, by omega, by omega, ?_⟩
      rw [stop k hp, if_pos (List.all_eq_true.2 fun x hx => hp x (by simpa using hx))]
    | succ d ih =>
      intro i k hi hk hp
      obtain ⟨k, rfl⟩ : ∃ m, k = m + 1 := ⟨k - 1, by omega⟩
      cases hpi : p i with
      | true =>
        obtain ⟨j, h1, h2, h3⟩ := ih (i + 1) k (by omega) (by omega) (fun j hj => by
          rcases Nat.eq_or_lt_of_le (Nat.lt_succ_iff.1 hj) with e | e
          · exact e ▸ hpi
          · exact hp j e)
        exact ⟨j, by omega, by omega, (step k i (by omega) hp hpi).trans h3⟩
      | false =>
        refine ⟨k, by omega, by omega, ?_⟩
        rw [exit k i (by omega) hp hpi, if_neg (fun ha => by have := List.all_eq_true.1 ha i (by simp; omega); rw [hpi] at this; cases this)]
  exact fun k hk => h n 0 k (by omega) hk (fun j hj => absurd hj (by omega))
/-- A search that ends with one of two answers. -/
theorem rounds_pre {R : Type} (L : Nat → Nat → Option R) (n : Nat) (p : Nat → Bool) (r bad : R) (step : ∀ k i, i < n → (∀ j, j < i → p j = true) → p i = true → L (k + 1) i = L k (i + 1))
    (exit : ∀ k i, i < n → (∀ j, j < i → p j = true) → p i = false → L (k + 1) i = some bad) (stop : ∀ k, (∀ j, j < n → p j = true) → L (k + 1) n = some r) :
    ∀ k, n < k → L k 0 = some (if (List.range n).all p then r else bad) := by
  intro k hk
  obtain ⟨j, _, _, h⟩ := rounds_to L n p (fun _ => some r) (fun _ => some bad) step exit stop k hk
  rw [h]
  split <;> rfl
theorem w64 {n : Int} (h0 : -9223372036854775808 ≤ n) (h1 : n ≤ 9223372036854775807) : wrap64 n = n := by
  unfold wrap64
  omega
theorem w64s (i : Nat) (h : i < 4611686018427387904) : wrap64 ((i : Int) + 1) = ((i + 1 : Nat) : Int) := by
  rw [w64 (by omega) (by omega)]
  omega
theorem wfi {a : Int} (h : (Lit.int .i64 a).wf = true) : -9223372036854775808 ≤ a ∧ a ≤ 9223372036854775807 := by
  have hmin : IntKind.i64.min = -9223372036854775808 := rfl
  have hmax : IntKind.i64.max = 9223372036854775807 := rfl
  simp only [Lit.wf, Bool.and_eq_true, decide_eq_true_eq] at h
  omega
theorem u64_of {a : Int} (h0 : 0 ≤ a) (h1 : a ≤ 18446744073709551615) : IntKind.u64.wrap a = a := by
  have h : IntKind.u64.wrap a = a % 18446744073709551616 := by
    simp [IntKind.wrap, IntKind.bits, IntKind.signed]
  rw [h]
  omega

/-! lists -/
theorem rd_nat (xs : List Int) (i : Nat) : rd xs (i : Int) = xs.getD i 0 := by unfold rd; simp
theorem rdOf_nat {α : Type} (d : α) (xs : List α) (i : Nat) : rdOf d xs (i : Int) = xs.getD i d := by unfold rdOf; simp
theorem getD_lt {α : Type} (xs : List α) (i : Nat) (d : α) (h : i < xs.length) : xs.getD i d = xs[i] := by
  rw [List.getD_eq_getElem?_getD, List.getElem?_eq_getElem h]
  rfl
theorem take_succ_getD {α : Type} (xs : List α) (i : Nat) (d : α) (h : i < xs.length) : xs.take (i + 1) = xs.take i ++ [xs.getD i d] := by
  rw [List.take_succ_eq_append_getElem h, getD_lt xs i d h]
/-- What is written from the front on. -/
theorem set_front {α : Type} (p l : List α) (i : Nat) (v : α) (hl : p.length = l.length) (h : i < l.length) (hv : p[i]? = some v) : (p.take i ++ l.drop i).set i v = p.take (i + 1) ++ l.drop (i + 1) := by
  apply List.ext_getElem?
  intro j
  by_cases hj : j = i
  · subst hj
    rw [List.getElem?_set_self (by simp; omega), List.getElem?_append_left (by simp; omega), List.getElem?_take_of_lt (by omega), hv]
  · rw [List.getElem?_set_ne (by omega)]
    rcases Nat.lt_or_ge j i with h1 | h1
    · rw [List.getElem?_append_left (by simp; omega), List.getElem?_append_left (by simp; omega), List.getElem?_take_of_lt (by omega), List.getElem?_take_of_lt (by omega)]
    · rw [List.getElem?_append_right (by simp; omega), List.getElem?_append_right (by simp; omega)]
      simp only [List.length_take, List.getElem?_drop]
      congr 1
      omega

/-! strings -/
theorem bt_nat (s : ByteArray) (i : Nat) (h : i < s.size) : bt s (i : Int) = (s[i].toNat : Int) := by
  unfold bt
  simp [h]
theorem toList_data (s : ByteArray) : s.toList = s.data.toList := ByteArray.toList_eq s
end Go.Proofs.Yteagogcpbcickaa.Pure
/- What the statements' own helpers answer (copies, comparisons, marks), as plain equations. Conditions: each lemma's own hypotheses. -/
set_option linter.unusedSimpArgs false
set_option linter.unusedVariables false
namespace Go.Proofs.Yteagogcpbcickaa.Pure
open Go.RowKit Go.Proofs.Yteagogcpbcickaa.G Go.Proofs.YteagogcpbcickaaW.PrintWords Go.Proofs.YteagogcpbcickaaW.PrintLast Go.Proofs.YteagogcpbcickaaW.PrintMore

theorem eqIntS_self (l : List Int) (hl : l.length ≤ 1099511627776) : ∀ k, l.length < k → laws_eqIntS.f k l l = some true := by
  intro k hk
  unfold laws_eqIntS.f
  rw [if_pos rfl]
  refine rounds (fun k i => laws_eqIntS.l0 k l l (i : Int)) l.length true ?_ ?_ k hk
  · intro k i hi
    simp only [laws_eqIntS.l0]
    rw [if_pos (by omega), if_pos (by omega), if_pos (by omega), if_pos (by simp), w64s i (by omega)]
  · intro k
    simp only [laws_eqIntS.l0]
    rw [if_neg (by omega)]
def markI (n : Nat) : List Int := (List.range n).map fun i => ((1 + i : Nat) : Int)
theorem markIntS_eq (l : List Int) (hl : l.length ≤ 1099511627776) : ∀ k, l.length < k → laws_markIntS.f k l 1 = some (((1 + l.length : Nat) : Int), markI l.length) := by
  intro k hk
  unfold laws_markIntS.f
  have h := rounds (fun k i => laws_markIntS.l0 k ((markI l.length).take i ++ l.drop i) ((1 + i : Nat) : Int) (i : Int)) l.length (((1 + l.length : Nat) : Int), markI l.length) ?_ ?_ k hk
  · simpa using h
  · intro k i hi
    simp only [laws_markIntS.l0]
    rw [if_pos (by simp [markI]; omega), if_pos (by omega), w64s i (by omega), w64s (1 + i) (by omega), Int.toNat_natCast, set_front (markI l.length) l i _ (by simp [markI]) hi (by simp [markI, hi])]
    rfl
  · intro k
    simp only [laws_markIntS.l0]
    rw [if_neg (by simp [markI]), List.take_of_length_le (by simp [markI])]
    simp
theorem heldIntS_eq (n : Nat) (hn : n ≤ 1099511627776) : ∀ k, n < k → laws_heldIntS.f k (markI n) 1 = some ((1 + n : Nat) : Int) := by
  intro k hk
  unfold laws_heldIntS.f
  refine rounds (fun k i => laws_heldIntS.l0 k (markI n) ((1 + i : Nat) : Int) (i : Int)) n _ ?_ ?_ k hk
  · intro k i hi
    simp only [laws_heldIntS.l0]
    rw [if_pos (by simp [markI]; omega), if_pos (by omega), rd_nat, w64s i (by omega), w64s (1 + i) (by omega), if_pos (by simp [markI, hi])]
    rfl
  · intro k
    simp only [laws_heldIntS.l0]
    rw [if_neg (by simp [markI])]
end Go.Proofs.Yteagogcpbcickaa.Pure
/- Tables as lists of flags: what the program and the reference take for a right table. Conditions: each lemma's own hypotheses. -/

set_option linter.unusedSimpArgs false
set_option linter.unusedVariables false
namespace Go.Proofs.Yteagogcpbcickaa.Pure
open Go.RowKit Go.Proofs.Yteagogcpbcickaa.G Go.Proofs.YteagogcpbcickaaW.PrintWords Go.Proofs.YteagogcpbcickaaW.PrintLast Go.Proofs.YteagogcpbcickaaW.PrintMore

/-- A search over rounds: it ends at the first round that fails. -/
theorem rounds_all {R : Type} (L : Nat → Nat → Option R) (n : Nat) (p : Nat → Bool) (r bad : R) (step : ∀ k i, i < n → p i = true → L (k + 1) i = L k (i + 1)) (exit : ∀ k i, i < n → p i = false → L (k + 1) i = some bad)
    (stop : ∀ k, L (k + 1) n = some r) : ∀ k, n < k → L k 0 = some (if (List.range n).all p then r else bad) :=
  rounds_pre L n p r bad (fun k i hi _ hp => step k i hi hp) (fun k i hi _ hp => exit k i hi hp) (fun k _ => stop k)

/-! ### tables -/
def sgn (b : Bool) : Int := if b then 49 else 48
def ones (l : List Bool) : ByteArray := ⟨(l.map fun b => if b then (49 : UInt8) else 48).toArray⟩
theorem ones_size (l : List Bool) : (ones l).size = l.length := by
  show (l.map fun b => if b then (49 : UInt8) else 48).toArray.size = _
  simp
theorem bt_ones (l : List Bool) (i : Nat) (h : i < l.length) : bt (ones l) (i : Int) = sgn (l.getD i false) := by
  have hs : i < (ones l).size := by rw [ones_size]; exact h
  rw [bt_nat _ i hs, getD_lt l i false h]
  have e : (ones l)[i] = if l[i] then (49 : UInt8) else 48 := by
    have h1 : (ones l).data.toList[i]? = some (ones l)[i] := by
      rw [List.getElem?_eq_getElem (by simpa using hs)]
      rfl
    have h2 : (ones l).data.toList[i]? = some (if l[i] then (49 : UInt8) else 48) := by simp [ones, h]
    exact Option.some.inj (h1.symm.trans h2)
  rw [e]
  unfold sgn
  cases l[i] <;> rfl
theorem ones_inj {a b : List Bool} (h : ones a = ones b) : a = b := by
  unfold ones at h
  injection h with h
  have h2 : (a.map fun b => if b then (49 : UInt8) else 48) = b.map fun b => if b then (49 : UInt8) else 48 := by simpa using congrArg Array.toList h
  exact List.map_inj_right (fun x y hxy => by revert hxy; cases x <;> cases y <;> decide) |>.1 h2
theorem data_inj {a b : ByteArray} (h : a.data.toList = b.data.toList) : a = b := by
  cases a; cases b
  simp only [ByteArray.mk.injEq]
  exact Array.toList_inj.1 h
theorem toList_inj {a b : ByteArray} : a.toList = b.toList ↔ a = b := by
  rw [toList_data, toList_data]
  exact ⟨data_inj, fun h => h ▸ rfl⟩
theorem strOfNums_ones (l : List Bool) : strOfNums (l.map sgn) = ones l := by
  unfold strOfNums ones
  congr 2
  rw [List.map_map]
  refine List.map_congr_left fun b _ => ?_
  cases b <;> rfl
def tok (N : Int) (s : ByteArray) : Bool := decide (0 ≤ N ∧ N ≤ 12 ∧ (s.size : Int) = 2 ^ N.toNat) && (List.range s.size).all fun (i : Nat) => bt s (i : Int) == 48 || bt s (i : Int) == 49
theorem tok_form {N : Int} {s : ByteArray} (h : tok N s = true) : ∃ (n : Nat) (l : List Bool), N = (n : Int) ∧ n ≤ 12 ∧ l.length = 2 ^ n ∧ s = ones l := by
  unfold tok at h
  simp only [Bool.and_eq_true, decide_eq_true_eq] at h
  obtain ⟨⟨h0, h1, h2⟩, h3⟩ := h
  obtain ⟨n, rfl⟩ := Int.eq_ofNat_of_zero_le h0
  have h2' : s.size = 2 ^ n := by
    rw [Int.toNat_natCast] at h2
    exact_mod_cast h2
  refine ⟨n, (List.range s.size).map fun (i : Nat) => decide (bt s (i : Int) = 49), rfl, by omega, by simp [h2'], ?_⟩
  apply data_inj
  apply List.ext_getElem?
  intro i
  rcases Nat.lt_or_ge i s.size with hi | hi
  · have hb := List.all_eq_true.1 h3 i (by simpa using hi)
    have e : s.data.toList[i]? = some s[i] := by
      rw [List.getElem?_eq_getElem (by simpa using hi)]
      rfl
    rw [e]
    have hv := bt_nat s i hi
    simp only [ones, List.map_map, List.getElem?_map, List.getElem?_range hi, Option.map_some, Function.comp]
    congr 1
    simp only [Bool.or_eq_true, beq_iff_eq] at hb
    have hd : ∀ c : UInt8, ((c.toNat : Int) = 48 → c = 48) ∧ ((c.toNat : Int) = 49 → c = 49) := fun c => ⟨fun h => UInt8.toNat_inj.1 (by have : c.toNat = 48 := by omega
                                                                                                                                         rw [this]; rfl), fun h => UInt8.toNat_inj.1 (by have : c.toNat = 49 := by omega
                                                                                                                                                                                         rw [this]; rfl)⟩
    rcases hb with hb | hb
    · have hc := (hd s[i]).1 (hv ▸ hb)
      simp [hb, hc]
    · have hc := (hd s[i]).2 (hv ▸ hb)
      simp [hb, hc]
  · rw [List.getElem?_eq_none (by simpa using hi), List.getElem?_eq_none (by simp [ones]; exact hi)]
theorem tok_ones {n : Nat} {l : List Bool} (hn : n ≤ 12) (hl : l.length = 2 ^ n) : tok (n : Int) (ones l) = true := by
  unfold tok
  rw [Bool.and_eq_true]
  refine ⟨decide_eq_true ⟨by omega, by omega, ?_⟩, List.all_eq_true.2 fun i hi => ?_⟩
  · rw [ones_size, hl, Int.toNat_natCast]
    norm_cast
  · have hi' : i < l.length := by rw [ones_size] at hi; simpa using hi
    rw [bt_ones l i hi']
    unfold sgn
    cases l.getD i false <;> rfl
theorem pow12 {n : Nat} (hn : n ≤ 12) : 2 ^ n ≤ 4096 := Nat.pow_le_pow_right (by decide) hn
theorem pow62 {n : Nat} (hn : n ≤ 61) : (2 : Int) ^ n ≤ 2305843009213693952 := by
  have h : 2 ^ n ≤ 2 ^ 61 := Nat.pow_le_pow_right (by decide) hn
  have h2 : ((2 ^ n : Nat) : Int) ≤ ((2 ^ 61 : Nat) : Int) := by exact_mod_cast h
  have h3 : ((2 ^ n : Nat) : Int) = (2 : Int) ^ n := by norm_cast
  omega
theorem pow_pos_ (n : Nat) : (1 : Int) ≤ 2 ^ n := by
  have h : 1 ≤ 2 ^ n := Nat.one_le_two_pow
  have h2 : ((1 : Nat) : Int) ≤ ((2 ^ n : Nat) : Int) := by exact_mod_cast h
  have h3 : ((2 ^ n : Nat) : Int) = (2 : Int) ^ n := by norm_cast
  omega
end Go.Proofs.Yteagogcpbcickaa.Pure
/- The place that bits tell, and the value of a table there. Conditions: each lemma's own hypotheses. -/
set_option linter.unusedSimpArgs false
set_option linter.unusedVariables false
namespace Go.Proofs.Yteagogcpbcickaa.Pure
open Go.RowKit Go.Proofs.Yteagogcpbcickaa.G Go.Proofs.YteagogcpbcickaaW.PrintWords Go.Proofs.YteagogcpbcickaaW.PrintLast Go.Proofs.YteagogcpbcickaaW.PrintMore

/-- The place that bits tell. -/
def plc (l : List Int) : Int := l.foldl (fun a b => 2 * a + b) 0
def isBit (b : Int) : Bool := b == 0 || b == 1
theorem plc_snoc (l : List Int) (b : Int) : plc (l ++ [b]) = 2 * plc l + b := by simp [plc, List.foldl_append]
theorem plc_bd (l : List Int) (i : Nat) (hi : i ≤ l.length) (h : ∀ j, j < i → isBit (l.getD j 0) = true) : 0 ≤ plc (l.take i) ∧ plc (l.take i) < 2 ^ i := by
  induction i with
  | zero => simp [plc]
  | succ i ih =>
    obtain ⟨h0, h1⟩ := ih (by omega) (fun j hj => h j (by omega))
    have hb := h i (by omega)
    simp only [isBit, Bool.or_eq_true, beq_iff_eq] at hb
    rw [take_succ_getD l i 0 (by omega), plc_snoc, Int.pow_succ]
    omega
theorem all_getD (l : List Int) (p : Int → Bool) : (List.range l.length).all (fun i => p (l.getD i 0)) = l.all p := by
  rw [Bool.eq_iff_iff, List.all_eq_true, List.all_eq_true]
  constructor
  · intro h x hx
    obtain ⟨i, hi, rfl⟩ := List.getElem_of_mem hx
    have := h i (by simpa using hi)
    rwa [getD_lt l i 0 hi] at this
  · intro h i hi
    have hi' : i < l.length := by simpa using hi
    rw [getD_lt l i 0 hi']
    exact h _ (List.getElem_mem hi')
theorem placeOfBits_eq (l : List Int) (hl : l.length ≤ 60) : ∀ k, l.length < k → impl_placeOfBits.f k l = some (if l.all isBit then (plc l, true) else (0, false)) := by
  intro k hk
  unfold impl_placeOfBits.f
  rw [← all_getD l isBit]
  have h := rounds_pre (fun k i => impl_placeOfBits.l0 k (plc (l.take i)) l (l.length : Int) (i : Int)) l.length (fun i => isBit (l.getD i 0)) (plc l, true) (0, false) ?_ ?_ ?_ k hk
  · simpa [plc] using h
  · intro k i hi hp hb
    simp only [isBit, Bool.or_eq_true, beq_iff_eq] at hb
    obtain ⟨h0, h1⟩ := plc_bd l i (by omega) hp
    have hw := pow62 (n := i) (by omega)
    simp only [impl_placeOfBits.l0]
    rw [if_pos (by omega), if_pos (by omega), if_pos (by omega), rd_nat, w64s i (by omega), take_succ_getD l i 0 hi, plc_snoc, w64 (n := 2 * plc (l.take i)) (by omega) (by omega), w64 (by omega) (by omega)]
    rcases hb with hb | hb
    · rw [if_pos hb]
    · rw [if_neg (by omega), if_pos hb]
  · intro k i hi hp hb
    simp only [isBit, Bool.or_eq_false_iff, beq_eq_false_iff_ne] at hb
    simp only [impl_placeOfBits.l0]
    rw [if_pos (by omega), if_pos (by omega), if_pos (by omega), rd_nat, if_neg hb.1, if_neg hb.2]
  · intro k hp
    simp only [impl_placeOfBits.l0]
    rw [if_neg (by omega), List.take_length]
/-- More places than fit are no matter where one of the first is no bit; else the number wraps: nobody asks then. -/
theorem placeOfBits_any (l : List Int) (hl : l.length ≤ 1099511627776) : ∃ x, ∀ k, l.length < k → impl_placeOfBits.f k l = some (if l.all isBit then (x, true) else (0, false)) := by
  refine ⟨l.foldl (fun a b => wrap64 (wrap64 (2 * a) + b)) 0, fun k hk => ?_⟩
  unfold impl_placeOfBits.f
  rw [← all_getD l isBit]
  have h := rounds_pre (fun k i => impl_placeOfBits.l0 k ((l.take i).foldl (fun a b => wrap64 (wrap64 (2 * a) + b)) 0) l (l.length : Int) (i : Int)) l.length (fun i => isBit (l.getD i 0)) (l.foldl (fun a b => wrap64 (wrap64 (2 * a) + b)) 0, true) (0, false) ?_ ?_ ?_ k hk
  · simpa using h
  · intro k i hi hp hb
    simp only [isBit, Bool.or_eq_true, beq_iff_eq] at hb
    simp only [impl_placeOfBits.l0]
    rw [if_pos (by omega), if_pos (by omega), if_pos (by omega), rd_nat, w64s i (by omega), take_succ_getD l i 0 hi, List.foldl_append]
    rcases hb with hb | hb
    · rw [if_pos hb]; rfl
    · rw [if_neg (by omega), if_pos hb]; rfl
  · intro k i hi hp hb
    simp only [isBit, Bool.or_eq_false_iff, beq_eq_false_iff_ne] at hb
    simp only [impl_placeOfBits.l0]
    rw [if_pos (by omega), if_pos (by omega), if_pos (by omega), rd_nat, if_neg hb.1, if_neg hb.2]
  · intro k hp
    simp only [impl_placeOfBits.l0]
    rw [if_neg (by omega), List.take_length]
/-- The value of a table at bits; -1 where they are none. -/
def valAt (N : Int) (s : ByteArray) (l : List Int) : Int := if tok N s ∧ (l.length : Int) = N ∧ l.all isBit then bt s (plc l) - 48 else -1
theorem bt_digit {n : Nat} {l : List Bool} {x : Int} (h0 : 0 ≤ x) (h1 : x < l.length) : bt (ones l) x = 48 ∨ bt (ones l) x = 49 := by
  obtain ⟨i, rfl⟩ := Int.eq_ofNat_of_zero_le h0
  rw [bt_ones l i (by omega)]
  unfold sgn
  split <;> simp
end Go.Proofs.Yteagogcpbcickaa.Pure
/- Decimal texts and keys of tables, the program's and the reference's. Conditions: each lemma's own hypotheses. -/
set_option linter.unusedSimpArgs false
set_option linter.unusedVariables false
namespace Go.Proofs.Yteagogcpbcickaa.Pure
open Go.RowKit Go.Proofs.Yteagogcpbcickaa.G Go.Proofs.YteagogcpbcickaaW.PrintWords Go.Proofs.YteagogcpbcickaaW.PrintLast Go.Proofs.YteagogcpbcickaaW.PrintMore

/-- The decimal digits of a number. -/
def digs (n : Nat) : List UInt8 := if n < 10 then [UInt8.ofNat (48 + n)] else digs (n / 10) ++ [UInt8.ofNat (48 + n % 10)]
termination_by n
decreasing_by omega
theorem digs_small {n : Nat} (h : n < 10) : digs n = [UInt8.ofNat (48 + n)] := by rw [digs, if_pos h]
theorem digs_big {n : Nat} (h : ¬ n < 10) : digs n = digs (n / 10) ++ [UInt8.ofNat (48 + n % 10)] := by rw [digs, if_neg h]
theorem digs_pos (n : Nat) : 1 ≤ (digs n).length := by
  by_cases h : n < 10
  · rw [digs_small h]; simp
  · rw [digs_big h]; simp
theorem digs_len (d : Nat) : ∀ n, n < 10 ^ d → (digs n).length ≤ max 1 d := by
  induction d with
  | zero => intro n hn; rw [digs_small (by omega)]; simp
  | succ d ih =>
    intro n hn
    by_cases h : n < 10
    · rw [digs_small h]; simp <;> omega
    · rw [digs_big h]
      have := ih (n / 10) (by rw [Nat.pow_succ] at hn; omega)
      simp
      by_cases hd : d = 0
      · subst hd; omega
      · omega
def byts (l : List UInt8) : ByteArray := ⟨l.toArray⟩
theorem byts_append (a b : List UInt8) : byts a ++ byts b = byts (a ++ b) := by
  apply data_inj
  rw [ByteArray.data_append]
  simp [byts]
theorem byts_size (l : List UInt8) : (byts l).size = l.length := by
  show l.toArray.size = _
  simp
theorem byts_inj {a b : List UInt8} (h : byts a = byts b) : a = b := by
  have := congrArg (fun s : ByteArray => s.data.toList) h
  simpa [byts] using this
theorem byts_of (s : ByteArray) : byts s.data.toList = s := by cases s; simp [byts]
theorem ones_byts (l : List Bool) : ones l = byts (l.map fun b => if b then (49 : UInt8) else 48) := rfl
theorem digits_step (k : Nat) (s : List UInt8) (x : Nat) (h1 : x ≤ 18446744073709551615) (hs : s.length ≤ 100) (h0 : s = [] ∨ 0 < x) : impl_digits.l0 (k + 1) (x : Int) (byts s) = impl_digits.l0 k ((x / 10 : Nat) : Int) (byts (UInt8.ofNat (48 + x % 10) :: s)) := by
  have hm : Int.tmod (x : Int) 10 = ((x % 10 : Nat) : Int) := by rw [Int.tmod_eq_emod_of_nonneg (by omega)]; omega
  have hd : Int.tdiv (x : Int) 10 = ((x / 10 : Nat) : Int) := by rw [Int.tdiv_eq_ediv_of_nonneg (by omega)]; omega
  have he : (byts s).toList = s := by rw [toList_data]; simp [byts]
  have hc : strOfNums [(IntKind.u64.wrap (48 + Int.tmod (x : Int) 10)) % 256] = byts [UInt8.ofNat (48 + x % 10)] := by
    rw [hm, u64_of (by omega) (by omega), show ((48 : Int) + ((x % 10 : Nat) : Int)) % 256 = ((48 + x % 10 : Nat) : Int) by omega]
    rfl
  simp only [impl_digits.l0, he, Option.bind_some, hc, byts_size, hd]
  rw [u64_of (a := ((x / 10 : Nat) : Int)) (by omega) (by omega), byts_append]
  by_cases hs0 : s = []
  · rw [if_pos hs0, if_pos (by rw [List.length_singleton]; omega)]; rfl
  · have hx := h0.resolve_left hs0
    rw [if_neg hs0, if_pos (by omega), if_pos (by rw [List.length_singleton]; omega)]; rfl
theorem digits_stop (k : Nat) (s : List UInt8) (hs : s ≠ []) : impl_digits.l0 (k + 1) 0 (byts s) = some (byts s) := by
  have he : (byts s).toList = s := by rw [toList_data]; simp [byts]
  simp only [impl_digits.l0, he]
  rw [if_neg hs, if_neg (by decide)]
theorem digits_loop (d : Nat) : ∀ (x : Nat) (s : List UInt8) (k : Nat), (s = [] ∨ 0 < x) → x < 10 ^ (d + 1) → x ≤ 18446744073709551615 → s.length + d ≤ 60 → d + 1 < k → impl_digits.l0 k (x : Int) (byts s) = some (byts (digs x ++ s)) := by
  induction d with
  | zero =>
    intro x s k h0 h1 h2 h3 hk
    obtain ⟨k, rfl⟩ : ∃ m, k = m + 2 := ⟨k - 2, by omega⟩
    rw [digits_step (k + 1) s x h2 (by omega) h0, show x / 10 = 0 by omega, show ((0 : Nat) : Int) = 0 from rfl, digits_stop _ _ (by simp), digs_small (by omega), Nat.mod_eq_of_lt (by omega)]
    rfl
  | succ d ih =>
    intro x s k h0 h1 h2 h3 hk
    obtain ⟨k, rfl⟩ : ∃ m, k = m + 1 := ⟨k - 1, by omega⟩
    rw [digits_step k s x h2 (by omega) h0]
    by_cases h : x < 10
    · obtain ⟨k, rfl⟩ : ∃ m, k = m + 1 := ⟨k - 1, by omega⟩
      rw [show x / 10 = 0 by omega, show ((0 : Nat) : Int) = 0 from rfl, digits_stop _ _ (by simp), digs_small h, Nat.mod_eq_of_lt h]
      rfl
    · rw [ih (x / 10) _ k (.inr (by omega)) (by rw [Nat.pow_succ] at h1; omega) (by omega) (by simp; omega) (by omega), digs_big h]
      simp
theorem impl_digits_eq (n : Nat) (hn : n ≤ 18446744073709551615) : ∀ k, 22 ≤ k → impl_digits.f k (n : Int) = some (byts (digs n)) := by
  intro k hk
  unfold impl_digits.f
  have h := digits_loop 19 n [] k (.inl rfl) (by omega) hn (by simp) (by omega)
  simpa [byts] using h
/-- The decimal text of a whole number. -/
def decs (a : Int) : List UInt8 := if a < 0 then 45 :: digs (-a).toNat else digs a.toNat
theorem impl_decimal_eq (a : Int) (h0 : -9223372036854775808 ≤ a) (h1 : a ≤ 9223372036854775807) : ∀ k, 22 ≤ k → impl_decimal.f k a = some (byts (decs a)) := by
  intro k hk
  unfold impl_decimal.f decs
  by_cases h : a < 0
  · rw [if_pos h, if_pos h, w64 (n := a + 1) (by omega) (by omega), w64 (n := -(a + 1)) (by omega) (by omega), u64_of (a := -(a + 1)) (by omega) (by omega), u64_of (a := -(a + 1) + 1) (by omega) (by omega), show -(a + 1) + 1 = (((-a).toNat : Nat) : Int) by omega, impl_digits_eq _ (by omega) k hk, Option.bind_some]
    have := digs_len 20 (-a).toNat (by omega)
    rw [if_pos (by rw [byts_size]; omega)]
    exact congrArg some (byts_append [45] _)
  · rw [if_neg h, if_neg h, u64_of (by omega) (by omega), show a = ((a.toNat : Nat) : Int) by omega, impl_digits_eq _ (by omega) k hk, Option.bind_some]
    rfl
theorem impl_decimal_nat (n : Nat) (hn : n ≤ 9223372036854775807) : ∀ k, 22 ≤ k → impl_decimal.f k (n : Int) = some (byts (digs n)) := by
  intro k hk
  rw [impl_decimal_eq (n : Int) (by omega) (by omega) k hk, decs, if_neg (by omega), Int.toNat_natCast]
/-- The key of a right table; the empty text for what is none. -/
def keyOf (N : Int) (s : ByteArray) : ByteArray := if tok N s then byts (digs N.toNat) ++ ⟨#[58]⟩ ++ s else ⟨#[]⟩
theorem digs12 {n : Nat} (h : n ≤ 12) : (digs n).length ≤ 2 := by
  have := digs_len 2 n (by omega)
  omega
end Go.Proofs.Yteagogcpbcickaa.Pure
/- The texts of picks, written and read. Conditions: each lemma's own hypotheses. -/
set_option linter.unusedSimpArgs false
set_option linter.unusedVariables false
namespace Go.Proofs.Yteagogcpbcickaa.Pure
open Go.RowKit Go.Proofs.Yteagogcpbcickaa.G Go.Proofs.YteagogcpbcickaaW.PrintWords Go.Proofs.YteagogcpbcickaaW.PrintLast Go.Proofs.YteagogcpbcickaaW.PrintMore

theorem isBit_cases {v : Int} (h : isBit v = true) : v = 0 ∨ v = 1 := by simpa [isBit] using h
theorem byts_toList (u : List UInt8) : (byts u).toList = u := by rw [toList_data]; simp [byts]
theorem bt_byts (u : List UInt8) (i : Nat) (h : i < u.length) : bt (byts u) (i : Int) = ((u.getD i 0).toNat : Int) := by
  have hs : i < (byts u).size := by rw [byts_size]; exact h
  rw [bt_nat _ i hs, getD_lt u i 0 h]
  have h1 : (byts u).data.toList[i]? = some (byts u)[i] := by
    rw [List.getElem?_eq_getElem (by simpa using hs)]
    rfl
  have h2 : (byts u).data.toList[i]? = some u[i] := by
    rw [show (byts u).data.toList = u from rfl, List.getElem?_eq_getElem h]
    rfl
  exact congrArg (fun c : UInt8 => (c.toNat : Int)) (Option.some.inj (h1.symm.trans h2))
/-- The sign of a bit. -/
def bch (v : Int) : UInt8 := if v = 1 then 49 else 48
/-- The text of bits; the empty text for what are none. -/
def bitsL (l : List Int) : List UInt8 := if l.all isBit ∧ l.length ≤ 12 then (if l = [] then [45] else l.map bch) else []
def pickL (l : List Int) (n : Int) : List UInt8 := if (l.all isBit ∧ l.length ≤ 12) ∧ isBit n then (if l = [] then [45] else l.map bch) ++ [32, bch n] else []
theorem bch_sgn (l : List Int) : strOfNums (l.map fun v => sgn (v == 1)) = byts (l.map bch) := by
  have h := strOfNums_ones (l.map fun v => v == 1)
  rw [List.map_map] at h
  refine h.trans ?_
  rw [ones_byts, List.map_map]
  congr 1
  refine List.map_congr_left fun v _ => ?_
  simp [bch]
theorem impl_bitsText_eq (l : List Int) (hl : l.length ≤ 1099511627776) : ∀ k, l.length + 1 < k → impl_bitsText.f k l = some (byts (bitsL l)) := by
  intro k hk
  obtain ⟨k, rfl⟩ : ∃ m, k = m + 1 := ⟨k - 1, by omega⟩
  obtain ⟨x, hx⟩ := placeOfBits_any l hl
  unfold impl_bitsText.f
  rw [hx (k + 1) (by omega), Option.bind_some]
  by_cases hb : l.all isBit = true
  · rw [if_pos hb, if_pos rfl]
    simp only [impl_bitsText.j0]
    by_cases hn : l.length ≤ 12
    · have e : bitsL l = if l = [] then [45] else l.map bch := by unfold bitsL; rw [if_pos ⟨hb, hn⟩]
      rw [if_neg (by simp; omega), e]
      by_cases h0 : l = []
      · subst h0; rfl
      · have hp : 0 < l.length := List.length_pos_iff.2 h0
        rw [if_neg (by omega), if_neg h0, ← bch_sgn]
        have h := rounds (fun k i => impl_bitsText.l0 k ((l.take i).map fun v => sgn (v == 1)) l (l.length : Int) (i : Int)) l.length (strOfNums (l.map fun v => sgn (v == 1))) ?_ ?_ k (by omega)
        · simpa using h
        · intro k i hi
          have hbi : isBit (l.getD i 0) = true := List.all_eq_true.1 hb _ (by rw [getD_lt l i 0 hi]; exact List.getElem_mem hi)
          have hs : impl_sign.f (l.getD i 0) = some (sgn (l.getD i 0 == 1)) := by
            rcases isBit_cases hbi with h | h <;> rw [h] <;> decide +kernel
          simp only [impl_bitsText.l0]
          rw [if_pos (by omega), if_pos (by omega), if_pos (by omega), rd_nat, hs, Option.bind_some, if_pos (by simp; omega), w64s i (by omega), take_succ_getD l i 0 hi, List.map_append]
          rfl
        · intro k
          simp only [impl_bitsText.l0]
          rw [if_neg (by omega), List.take_length]
    · rw [if_pos (by simp; omega), show bitsL l = [] from if_neg (fun h => hn h.2)]
      rfl
  · rw [if_neg hb, if_neg (by decide), show bitsL l = [] from if_neg (fun h => hb h.1)]
    simp only [impl_bitsText.j0]
    rfl
theorem impl_PickText_eq (l : List Int) (n : Int) (hl : l.length ≤ 1099511627776) : ∀ k, l.length + 30 < k → impl_PickText.f k l n = some (byts (pickL l n)) := by
  intro k hk
  unfold impl_PickText.f pickL
  rw [impl_bitsText_eq l hl k (by omega), Option.bind_some, byts_toList, byts_size]
  unfold bitsL
  by_cases hb : (l.all isBit = true) ∧ l.length ≤ 12
  · rw [if_pos hb]
    have hw : (if l = [] then ([45] : List UInt8) else l.map bch) ≠ [] ∧ (if l = [] then ([45] : List UInt8) else l.map bch).length ≤ 12 := by
      split
      · simp
      · rename_i h0
        exact ⟨by simpa using h0, by simpa using hb.2⟩
    generalize (if l = [] then ([45] : List UInt8) else l.map bch) = w at hw ⊢
    rw [if_neg hw.1]
    by_cases h0 : n = 0
    · subst h0
      rw [if_pos rfl, if_pos (by omega), impl_decimal_eq 0 (by omega) (by omega) k (by omega), Option.bind_some, show decs 0 = [48] from digs_small (by omega), if_pos (by rw [byts_size, List.length_singleton]; omega), if_pos ⟨hb, rfl⟩,
        show (⟨#[32]⟩ : ByteArray) = byts [32] from rfl, byts_append, byts_append, List.append_assoc]
      rfl
    · by_cases h1 : n = 1
      · subst h1
        rw [if_neg (by decide), if_pos rfl, if_pos (by omega), impl_decimal_eq 1 (by omega) (by omega) k (by omega), Option.bind_some, show decs 1 = [49] from digs_small (by omega), if_pos (by rw [byts_size, List.length_singleton]; omega), if_pos ⟨hb, rfl⟩,
          show (⟨#[32]⟩ : ByteArray) = byts [32] from rfl, byts_append, byts_append, List.append_assoc]
        rfl
      · rw [if_neg h0, if_neg h1, if_neg (fun h => by rcases isBit_cases h.2 with h | h <;> contradiction)]
        rfl
  · rw [if_neg hb, if_pos rfl, if_neg (fun h => hb h.1)]
    rfl
theorem bit_extract (v : Int) (h : isBit v = true) : (⟨#[48, 49]⟩ : ByteArray).extract v.toNat (wrap64 (v + 1)).toNat = byts [bch v] := by
  apply data_inj
  rw [ByteArray.data_extract]
  rcases isBit_cases h with h | h <;> subst h <;> decide +kernel
theorem spec_PickText_eq (l : List Int) (n : Int) (hl : l.length ≤ 1099511627776) : ∀ k, l.length + 1 < k → spec_PickText.f k l n = some (byts (pickL l n)) := by
  intro k hk
  obtain ⟨k, rfl⟩ : ∃ m, k = m + 1 := ⟨k - 1, by omega⟩
  unfold spec_PickText.f
  by_cases hn : (l.length : Int) > 12
  · rw [if_pos hn]
    unfold pickL
    simp only [spec_PickText.j0]
    rw [if_pos trivial, if_neg (fun h => by omega)]
    rfl
  · rw [if_neg hn]
    have hin : spec_l01In.f n 0 1 = some (isBit n) := by
      unfold spec_l01In.f isBit
      by_cases h : n ≥ 0
      · rw [if_pos h]
        congr 1
        rw [Bool.eq_iff_iff]
        simp
        omega
      · rw [if_neg h]
        congr 1
        symm
        simp
        omega
    rw [hin, Option.bind_some]
    cases hbn : isBit n with
    | false => simp [spec_PickText.j0, pickL, hbn, byts]
    | true =>
      simp only [spec_PickText.j0]
      rw [if_neg (by decide)]
      have h := rounds_pre (fun k i => spec_PickText.l0 k (byts ((l.take i).map bch)) (i : Int) l n) l.length (fun i => isBit (l.getD i 0)) (byts ((if l = [] then [45] else l.map bch) ++ [32, bch n])) (byts []) ?_ ?_ ?_ k (by omega)
      · rw [all_getD] at h
        refine Eq.trans ?_ (h.trans ?_)
        · simp [byts]
        · unfold pickL
          cases hb : l.all isBit
          · simp
          · simp only [if_true, true_and, hbn, and_true]
            rw [if_pos (show l.length ≤ 12 by omega)]
      · intro k i hi hp hb
        have hc := isBit_cases hb
        have he := bit_extract _ hb
        simp only [spec_PickText.l0, spec_l01In.f]
        rw [if_pos (by omega), if_pos (by omega), rd_nat, if_pos (by omega), decide_eq_true (show l.getD i 0 ≤ 1 by omega), Option.bind_some, if_pos rfl, he, if_pos (by omega), w64 (n := l.getD i 0 + 1) (by omega) (by omega), if_pos (by omega), if_pos (by omega),
          if_pos (by rw [byts_size, byts_size]; simp; omega), w64s i (by omega), byts_append, take_succ_getD l i 0 hi, List.map_append]
        rfl
      · intro k i hi hp hb
        simp only [isBit, Bool.or_eq_false_iff, beq_eq_false_iff_ne] at hb
        simp only [spec_PickText.l0, spec_l01In.f]
        rw [if_pos (by omega), if_pos (by omega), rd_nat]
        by_cases h0 : l.getD i 0 ≥ 0
        · rw [if_pos h0, decide_eq_false (by omega)]
          rfl
        · rw [if_neg h0]
          rfl
      · intro k hp
        have hc := isBit_cases hbn
        have he := bit_extract n hbn
        simp only [spec_PickText.l0]
        rw [if_neg (by omega), List.take_length, byts_toList, he, byts_size, byts_size, List.length_map, List.length_singleton, w64 (n := n + 1) (by omega) (by omega)]
        by_cases h0 : l = []
        · subst h0
          rw [if_pos (show List.map bch [] = [] from rfl), if_pos (by omega), if_pos (by omega), if_pos (by omega), if_pos (by omega), if_pos (by omega), if_pos rfl]
          exact congrArg some (byts_append [45, 32] [bch n])
        · rw [if_neg (by simpa using h0), if_pos (by omega), if_pos (by omega), if_pos (by omega), if_pos (by omega), if_pos (by omega), if_neg h0, show (⟨#[32]⟩ : ByteArray) = byts [32] from rfl, byts_append, byts_append, List.append_assoc]
          rfl
end Go.Proofs.Yteagogcpbcickaa.Pure
/- The texts of picks, read. Conditions: each lemma's own hypotheses. -/
set_option linter.unusedSimpArgs false
set_option linter.unusedVariables false
namespace Go.Proofs.Yteagogcpbcickaa.Pure
open Go.RowKit Go.Proofs.Yteagogcpbcickaa.G Go.Proofs.YteagogcpbcickaaW.PrintWords Go.Proofs.YteagogcpbcickaaW.PrintLast Go.Proofs.YteagogcpbcickaaW.PrintMore

/-- A byte as a bit's number. -/
def unb (c : UInt8) : Int := (c.toNat : Int) - 48
theorem c45 {c : UInt8} (h : ((c.toNat : Nat) : Int) = 45) : c = 45 := UInt8.toNat_inj.1 (by show c.toNat = 45; omega)
theorem unb_bch {v : Int} (h : isBit v = true) : unb (bch v) = v := by rcases isBit_cases h with h | h <;> subst h <;> decide
theorem unb_w (c : UInt8) : wrap64 (wrap64 (c.toNat : Int) - 48) = unb c := by
  have := c.toNat_lt
  unfold unb
  rw [w64 (n := (c.toNat : Int)) (by omega) (by omega), w64 (by omega) (by omega)]
/-- The bits that the program reads out of the front of a text. -/
def implBits (u : List UInt8) : List Int := ((u.take (u.length - 2)).filter fun c => c != 45).map unb
/-- The bits that the reference reads. -/
def specBits (u : List UInt8) : List Int := if u.getD 0 0 = 45 then [] else (u.take (u.length - 2)).map unb
/-- What either reads where the text of what it read is the text that it read from. -/
def readT (u : List UInt8) (l : List Int) (n : Int) : List Int × Int × Bool := if pickL l n = u then (l, n, true) else ([], 0, false)
theorem pick_back {l : List Int} {n : Int} {u : List UInt8} (hu : u ≠ []) (h : pickL l n = u) : implBits u = l ∧ specBits u = l ∧ 3 ≤ u.length ∧ u.length ≤ 14 := by
  unfold pickL at h
  split at h
  · rename_i hc
    obtain ⟨⟨hb, hl⟩, hn⟩ := hc
    subst h
    by_cases h0 : l = []
    · subst h0
      refine ⟨?_, ?_, by simp, by simp⟩
      · unfold implBits; simp
      · unfold specBits; simp
    · rw [if_neg h0]
      have hp : 0 < l.length := List.length_pos_iff.2 h0
      have ht : (l.map bch ++ [32, bch n]).take ((l.map bch ++ [32, bch n]).length - 2) = l.map bch := by
        rw [List.take_append_of_le_length (by simp)]
        exact List.take_of_length_le (by simp)
      have hm : (l.map bch).map unb = l := by
        rw [List.map_map]
        exact (List.map_congr_left fun v hv => unb_bch (List.all_eq_true.1 hb v hv)).trans (List.map_id l)
      have h45 : ∀ v, bch v ≠ 45 := fun v => by unfold bch; split <;> decide
      refine ⟨?_, ?_, by simp; omega, by simp; omega⟩
      · unfold implBits
        rw [ht, List.filter_eq_self.2 ?_, hm]
        intro c hc
        obtain ⟨v, _, rfl⟩ := List.mem_map.1 hc
        simpa using h45 v
      · unfold specBits
        rw [ht, hm, if_neg ?_]
        cases l with
        | nil => exact absurd rfl h0
        | cons v l => simpa using h45 v
  · exact absurd h.symm hu
theorem impl_readBits_eq (u : List UInt8) (hu : u.length ≤ 1099511627776) : ∀ k, u.length < k → impl_readBits.f k (byts u) = some ((u.filter fun c => c != 45).map unb) := by
  intro k hk
  unfold impl_readBits.f
  rw [byts_size]
  have h := rounds (fun k i => impl_readBits.l0 k (byts u) (((u.take i).filter fun c => c != 45).map unb) (u.length : Int) (i : Int)) u.length ((u.filter fun c => c != 45).map unb) ?_ ?_ k hk
  · simpa using h
  · intro k i hi
    have hlen : (((u.take i).filter fun c => c != 45).map unb).length ≤ i := by
      rw [List.length_map]
      exact Nat.le_trans (List.length_filter_le _ _) (by rw [List.length_take]; omega)
    simp only [impl_readBits.l0]
    rw [if_pos (by omega), if_pos (by omega), if_pos (by rw [byts_size]; omega), bt_byts u i hi, unb_w, take_succ_getD u i 0 hi, List.filter_append, List.map_append, w64s i (by omega)]
    by_cases h45 : u.getD i 0 = 45
    · rw [if_pos (by rw [h45]; rfl), h45]
      simp
    · rw [if_neg (fun h => h45 (c45 h)), if_pos (by omega), show [u.getD i 0].filter (fun c => c != 45) = [u.getD i 0] from by rw [List.filter_cons_of_pos (p := fun c => c != 45) (bne_iff_ne.2 h45), List.filter_nil]]
      rfl
  · intro k
    simp only [impl_readBits.l0]
    rw [if_neg (by omega), List.take_length]
theorem impl_ReadPick_eq (u : List UInt8) (hu : u.length ≤ 1099511627776) : ∀ k, u.length + 40 < k → impl_ReadPick.f k (byts u) = some (if 3 ≤ u.length ∧ u.length ≤ 14 then readT u (implBits u) (unb (u.getD (u.length - 1) 0)) else ([], 0, false)) := by
  intro k hk
  unfold impl_ReadPick.f impl_within.f
  rw [byts_size]
  by_cases h1 : (u.length : Int) ≥ 3
  · rw [if_pos h1, Option.bind_some]
    by_cases h2 : (u.length : Int) ≤ 14
    · have hx : (byts u).extract 0 (u.length - 2) = byts (u.take (u.length - 2)) := by
        apply data_inj
        rw [ByteArray.data_extract]
        simp [byts]
      have hlen : (implBits u).length ≤ u.length := by
        unfold implBits
        rw [List.length_map]
        exact Nat.le_trans (List.length_filter_le _ _) (by rw [List.length_take]; omega)
      rw [if_pos (by simpa using h2), w64 (n := (u.length : Int) - 2) (by omega) (by omega), if_pos (by omega), if_pos (by omega), show ((u.length : Int) - 2).toNat = u.length - 2 by omega, hx, impl_readBits_eq _ (by rw [List.length_take]; omega) k (by rw [List.length_take]; omega), Option.bind_some,
        w64 (n := (u.length : Int) - 1) (by omega) (by omega), if_pos (by omega), if_pos (by omega), show (u.length : Int) - 1 = ((u.length - 1 : Nat) : Int) by omega, bt_byts u _ (by omega), unb_w,
        impl_PickText_eq _ _ (by show (implBits u).length ≤ _; omega) k (by show (implBits u).length + 30 < _; omega), Option.bind_some, byts_toList, byts_toList, if_pos (show 3 ≤ u.length ∧ u.length ≤ 14 by omega)]
      unfold readT
      rw [show ((u.take (u.length - 2)).filter fun c => c != 45).map unb = implBits u from rfl]
      by_cases hp : pickL (implBits u) (unb (u.getD (u.length - 1) 0)) = u
      · rw [if_pos hp, if_pos hp]
      · rw [if_neg hp, if_neg hp]
    · rw [if_neg (by simpa using h2), if_neg (by omega)]
  · rw [if_neg h1, Option.bind_some, if_neg (by decide), if_neg (by omega)]
theorem spec_ReadPick_eq (u : List UInt8) (hu : u.length ≤ 1099511627776) : ∀ k, u.length + 60 < k → spec_ReadPick.f k (byts u) = some (if 3 ≤ u.length ∧ u.length ≤ 20 then readT u (specBits u) (unb (u.getD (u.length - 1) 0)) else ([], 0, false)) := by
  intro k hk
  obtain ⟨k, rfl⟩ : ∃ m, k = m + 1 := ⟨k - 1, by omega⟩
  unfold spec_ReadPick.f
  rw [byts_size]
  by_cases h1 : (u.length : Int) < 3
  · rw [if_pos h1, if_neg (by omega)]
    simp only [spec_ReadPick.j0]
    rw [if_pos trivial]
  · rw [if_neg h1]
    simp only [spec_ReadPick.j0]
    by_cases h2 : (u.length : Int) > 20
    · rw [if_pos (by simpa using h2), if_neg (by omega)]
    · rw [if_neg (by simpa using h2), byts_size, w64 (n := (u.length : Int) - 1) (by omega) (by omega), if_pos (by omega), if_pos (by omega), if_pos (by omega), show (u.length : Int) - 1 = ((u.length - 1 : Nat) : Int) by omega, bt_byts u _ (by omega), unb_w]
      generalize unb (u.getD (u.length - 1) 0) = n
      have hpos : (0 : Int) < (u.length : Int) := by omega
      have h00 : bt (byts u) 0 = ((u.getD 0 0).toNat : Int) := bt_byts u 0 (by omega)
      have hw : wrap64 ((u.length : Int) - 2) = ((u.length - 2 : Nat) : Int) := by rw [w64 (by omega) (by omega)]; omega
      by_cases h45 : u.getD 0 0 = 45
      · obtain ⟨k, rfl⟩ : ∃ m, k = m + 1 := ⟨k - 1, by omega⟩
        have e : specBits u = [] := by unfold specBits; rw [if_pos h45]
        simp only [spec_ReadPick.l0]
        rw [byts_size, hw, if_pos (by omega), if_pos hpos, h00, h45, if_pos (by decide), spec_PickText_eq [] n (by simp) k (by simp; omega), Option.bind_some, byts_toList, byts_toList, e]
        unfold readT
        by_cases hp : pickL [] n = u
        · rw [if_pos hp, if_pos hp]
        · rw [if_neg hp, if_neg hp]
      · have e : specBits u = (u.take (u.length - 2)).map unb := by unfold specBits; rw [if_neg h45]
        have hlen : (specBits u).length ≤ 18 := by rw [e]; simp; omega
        have h := rounds_ 30 (fun k i => spec_ReadPick.l0 k (byts u) (i : Int) ((u.take i).map unb) n) (u.length - 2) (readT u (specBits u) n) ?_ ?_ k (by omega)
        · simpa using h
        · intro k i hk hi
          simp only [spec_ReadPick.l0]
          rw [byts_size, hw, if_pos (by omega), if_pos hpos, h00, if_neg (fun h => h45 (c45 h)), if_pos (by omega), if_pos (by omega), if_pos (by simp; omega), bt_byts u i (by omega), unb_w, take_succ_getD u i 0 (by omega), List.map_append, w64s i (by omega)]
          rfl
        · intro k hk
          simp only [spec_ReadPick.l0]
          rw [byts_size, hw, if_neg (by omega), ← e, spec_PickText_eq (specBits u) n (by omega) k (by omega), Option.bind_some, byts_toList, byts_toList]
          unfold readT
          by_cases hp : pickL (specBits u) n = u
          · rw [if_pos hp, if_pos hp]
          · rw [if_neg hp, if_neg hp]
/-- Both read the same. -/
theorem read_same (u : List UInt8) (n : Int) : (if 3 ≤ u.length ∧ u.length ≤ 14 then readT u (implBits u) n else ([], 0, false)) = (if 3 ≤ u.length ∧ u.length ≤ 20 then readT u (specBits u) n else ([], 0, false)) := by
  by_cases h3 : 3 ≤ u.length
  · have hu : u ≠ [] := by intro h; subst h; simp at h3
    by_cases hi : pickL (implBits u) n = u
    · obtain ⟨e1, e2, _, h14⟩ := pick_back hu hi
      rw [if_pos ⟨h3, h14⟩, if_pos ⟨h3, by omega⟩, e2]
    · have hs : pickL (specBits u) n ≠ u := fun h => by
        obtain ⟨e1, e2, _, _⟩ := pick_back hu h
        rw [e1] at hi
        exact hi h
      have ei : readT u (implBits u) n = ([], 0, false) := if_neg hi
      have es : readT u (specBits u) n = ([], 0, false) := if_neg hs
      rw [ei, es]
      split <;> split <;> rfl
  · rw [if_neg (by omega), if_neg (by omega)]
theorem readT_len (u : List UInt8) (l : List Int) (n : Int) (hu : u ≠ []) : (readT u l n).1.length ≤ 12 := by
  unfold readT
  split
  · rename_i h
    unfold pickL at h
    split at h
    · rename_i hc; exact hc.1.2
    · exact absurd h.symm hu
  · simp
end Go.Proofs.Yteagogcpbcickaa.Pure
/- The program's ReadPick and the reference's. Conditions: lengths fit. -/
set_option linter.unusedSimpArgs false
set_option linter.unusedVariables false
namespace Go.Proofs.Yteagogcpbcickaa.Pure
open Go.RowKit Go.Proofs.Yteagogcpbcickaa.G Go.Proofs.YteagogcpbcickaaW.PrintWords Go.Proofs.YteagogcpbcickaaW.PrintLast Go.Proofs.YteagogcpbcickaaW.PrintMore

theorem FnExactReadPick_pure : ∀ (a0 : ByteArray), a0.size ≤ maxLen → ∃ k, laws_FnExactReadPick.f k a0 = some true := by
  intro s _
  obtain ⟨u, rfl⟩ : ∃ u, s = byts u := ⟨s.data.toList, (byts_of s).symm⟩
  by_cases hs : ((byts u).size : Int) > 1048576
  · exact ⟨0, by unfold laws_FnExactReadPick.f; rw [if_pos hs]⟩
  obtain ⟨k, hk⟩ : ∃ k, u.length + 100 < k := ⟨u.length + 101, by omega⟩
  refine ⟨k + 2, ?_⟩
  rw [byts_size] at hs
  unfold laws_FnExactReadPick.f
  rw [byts_size, if_neg hs]
  have e1 := spec_ReadPick_eq u (by omega)
  have e2 := impl_ReadPick_eq u (by omega)
  rw [read_same u] at e2
  have hl : (if 3 ≤ u.length ∧ u.length ≤ 20 then readT u (specBits u) (unb (u.getD (u.length - 1) 0)) else ([], 0, false)).1.length ≤ 12 := by
    split
    · rename_i h
      exact readT_len u _ _ (by intro h0; subst h0; simp at h)
    · simp
  generalize (if 3 ≤ u.length ∧ u.length ≤ 20 then readT u (specBits u) (unb (u.getD (u.length - 1) 0)) else ([], 0, false)) = x at e1 e2 hl
  have hn : ¬ (((1 + x.1.length : Nat) : Int) < 0) := by omega
  simp only [e1 (k + 2) (by omega), e2 (k + 2) (by omega), e2 (k + 1) (by omega), e2 k (by omega), Option.bind_some, laws_eqPick.f, laws_markPick.f, laws_heldPick.f, eqIntS_self x.1 (by omega) (k + 2) (by omega), eqIntS_self x.1 (by omega) (k + 1) (by omega), eqIntS_self x.1 (by omega) k (by omega), if_true, bne_self_eq_false,
    laws_FnExactReadPick.j0, laws_FnExactReadPick.j1, Bool.false_eq_true, if_false, markIntS_eq x.1 (by omega) (k + 1) (by omega), heldIntS_eq x.1.length (by omega) (k + 1) (by omega), heldIntS_eq x.1.length (by omega) k (by omega), if_neg hn]
end Go.Proofs.Yteagogcpbcickaa.Pure
/- What an argument of a law reads as, told by the print's kinds: a lemma for each shape of type. Conditions: none beyond the lemmas' own hypotheses. -/
namespace Go.Proofs.Yteagogcpbcickaa.Open
open Go.Deep Go.ChangeShapes Go.WideShapes Go.RowKit Go.Proofs.YteagogcpbcickaaW.PrintWords

/-- Whatever reads as data of type t reads by the kind d, and what is read is ok. -/
def Opens {α : Type} (P : Program) (t : TypeId) (d : Kd α) (ok : α → Prop) : Prop :=
  ∀ (H : Type) (enc : TypeId × Value → H) (w : World) (base : Nat) (spare : Nat → Bool) (held : Bool) (fuel : Nat) (cs : List Value) (x : DataW H × List MemPlace),
    DataW.trod enc P w base spare held fuel t cs = some x → ∃ a, d.K w a cs ∧ ok a

def FOpens {α : Type} (P : Program) (fs : List Field) (off : Nat) (d : Kd α) (ok : α → Prop) : Prop :=
  ∀ (H : Type) (enc : TypeId × Value → H) (w : World) (base : Nat) (spare : Nat → Bool) (held : Bool) (fuel : Nat) (cs : List Value),
    (∀ f ∈ fs, ∃ x, DataW.trod enc P w base spare held fuel f.type ((cs.drop f.offset).take (P.cellsOf f.type)) = some x) → ∃ a, d.K w a ((cs.drop off).take d.sz) ∧ ok a

theorem opens_int {P : Program} {t : TypeId} {k : IntKind} (hu : P.underlying t = some (.int k)) : Opens P t (Kd.int k) (fun a => (Lit.int k a).wf = true) := by
  intro H enc w base spare held fuel cs x h
  obtain ⟨n, rfl, _, hw⟩ := DataW.trod_int hu h
  exact ⟨n, rfl, hw⟩
theorem opens_bool {P : Program} {t : TypeId} (hu : P.underlying t = some .bool) : Opens P t Kd.bool (fun _ => True) := by
  intro H enc w base spare held fuel cs x h
  obtain ⟨n, rfl, _⟩ := DataW.trod_bool hu h
  exact ⟨n, rfl, trivial⟩
theorem opens_string {P : Program} {t : TypeId} (hu : P.underlying t = some .string) : Opens P t Kd.string (fun s => s.size ≤ maxLen) := by
  intro H enc w base spare held fuel cs x h
  obtain ⟨n, rfl, _, hw⟩ := DataW.trod_string hu h
  exact ⟨n, rfl, hw⟩
theorem list_of {α : Type} {p : Nat → α → Prop} : ∀ n, (∀ i, i < n → ∃ a, p i a) → ∃ l : List α, l.length = n ∧ ∀ i a, l[i]? = some a → p i a
  | 0, _ => ⟨[], rfl, fun i a h => by simp at h⟩
  | n + 1, h => by
    obtain ⟨l, hl, hp⟩ := list_of n (fun i hi => h i (by omega))
    obtain ⟨a, ha⟩ := h n (by omega)
    refine ⟨l ++ [a], by simp [hl], fun i b hb => ?_⟩
    rw [List.getElem?_append] at hb
    split at hb
    · exact hp i b hb
    · rename_i hi
      have e : i = n := by
        rcases Nat.lt_or_ge (i - l.length) 1 with h1 | h1
        · omega
        · rw [List.getElem?_eq_none (by simpa using h1)] at hb
          cases hb
      subst e
      rw [hl, Nat.sub_self] at hb
      cases hb
      exact ha
theorem opens_slice {α : Type} {P : Program} {t e : TypeId} {d : Kd α} {ok : α → Prop} (hu : P.underlying t = some (.slice e)) (hc : P.cellsOf e = d.sz) (h : Opens P e d ok) :
    Opens P t (Kd.slice e d) (fun l => l.length ≤ maxLen ∧ ∀ x ∈ l, ok x) := by
  intro H enc w base spare held fuel cs x hx
  rcases open_slice hu hx with ⟨rfl, rfl⟩ | ⟨a, len, cap, m, n, D, Pl, rfl, hb, hl, hm, hmm, rfl, hel⟩
  · exact ⟨[], ⟨none, 0, rfl, Nat.le_refl _, rfl, by simp, fun h => absurd h (by simp)⟩, by simp [maxLen], by simp⟩
  · have hle : len ≤ m := by rw [hmm]; split <;> omega
    have hone : ∀ i, i < len → ∃ y : α, (∃ cs', w.cells? base (a.add (i * P.cellsOf e)) (P.cellsOf e) = some cs' ∧ d.K w y cs') ∧ ok y := by
      intro i hi
      obtain ⟨cs', h1, h2⟩ := hel i (by omega)
      obtain ⟨y, hk, ho⟩ := h H enc w base spare held n cs' _ h2
      exact ⟨y, ⟨cs', h1, hk⟩, ho⟩
    obtain ⟨l, hll, hp⟩ := list_of len hone
    subst hll
    refine ⟨l, ⟨some a, cap, rfl, hl, rfl, by simp only [maxLen] at hm; omega, fun _ => ⟨a, rfl, fun j p hj => ?_⟩⟩, by omega, ?_⟩
    · obtain ⟨⟨cs', h1, hk⟩, _⟩ := hp j p hj
      refine ⟨cs', d.K_len hk, hk, fun i u hu => ?_⟩
      have hlt : i < cs'.length := by
        rcases Nat.lt_or_ge i cs'.length with h' | h'
        · exact h'
        · rw [List.getElem?_eq_none h'] at hu; cases hu
      have hlen := d.K_len hk
      obtain ⟨_, hlen2, hcell⟩ := World.cells?_some h1
      rw [hc] at hcell
      have := hcell i (by omega)
      rw [hu] at this
      rw [← Addr.add_add]
      exact this.symm ▸ rfl
    · intro x hx
      obtain ⟨i, hi, rfl⟩ := List.getElem_of_mem hx
      exact (hp i _ (List.getElem?_eq_getElem hi)).2
theorem fopens_one {α : Type} {P : Program} {f : Field} {off : Nat} {d : Kd α} {ok : α → Prop} (ho : f.offset = off) (hc : P.cellsOf f.type = d.sz) (h : Opens P f.type d ok) : FOpens P [f] off d ok := by
  intro H enc w base spare held fuel cs hx
  obtain ⟨x, hx⟩ := hx f (by simp)
  rw [ho, hc] at hx
  exact h H enc w base spare held fuel _ x hx
theorem fopens_cons {α β : Type} {P : Program} {f : Field} {fs : List Field} {off : Nat} {d : Kd α} {d' : Kd β} {ok : α → Prop} {ok' : β → Prop} (ho : f.offset = off) (hc : P.cellsOf f.type = d.sz) (h : Opens P f.type d ok)
    (hs : FOpens P fs (off + d.sz) d' ok') : FOpens P (f :: fs) off (Kd.pair d d') (fun x => ok x.1 ∧ ok' x.2) := by
  intro H enc w base spare held fuel cs hx
  obtain ⟨a, ha, hoa⟩ := fopens_one ho hc h H enc w base spare held fuel cs (fun g hg => hx g (by simp at hg; simp [hg]))
  obtain ⟨b, hb, hob⟩ := hs H enc w base spare held fuel cs (fun g hg => hx g (by simp [hg]))
  refine ⟨(a, b), ⟨_, _, ?_, ha, hb⟩, hoa, hob⟩
  show (cs.drop off).take (d.sz + d'.sz) = _
  rw [List.take_add, List.drop_drop]
theorem opens_struct {α : Type} {P : Program} {t : TypeId} {fs : Array Field} {d : Kd α} {ok : α → Prop} (hu : P.underlying t = some (.struct fs)) (hc : P.cellsOf t = d.sz) (h : FOpens P fs.toList 0 d ok) : Opens P t d ok := by
  intro H enc w base spare held fuel cs x hx
  obtain ⟨xs, n, rfl, _, hlen, hxl, hf⟩ := DataW.trod_struct hu hx
  have := h H enc w base spare held n cs (fun f hm => by
    obtain ⟨i, hi, rfl⟩ := List.getElem_of_mem hm
    have hi' : i < fs.size := by simpa using hi
    have e := hf i fs[i] (Array.getElem?_eq_getElem hi')
    rw [List.getElem?_eq_getElem (show i < xs.length by omega)] at e
    exact ⟨_, by simpa using e⟩)
  rw [List.drop_zero, List.take_of_length_le (by omega)] at this
  exact this
theorem opens_iso {α β : Type} {P : Program} {t : TypeId} {d : Kd α} {ok : α → Prop} (f : β → α) (g : α → β) (hfg : ∀ a, f (g a) = a) (h : Opens P t d ok) : Opens P t (Kd.iso d f) (fun x => ok (f x)) := by
  intro H enc w base spare held fuel cs x hx
  obtain ⟨a, ha, ho⟩ := h H enc w base spare held fuel cs x hx
  exact ⟨g a, by show d.K w (f (g a)) cs; rw [hfg]; exact ha, by show ok (f (g a)); rw [hfg]; exact ho⟩
/-- A struct's value is its cells. -/
theorem agg_of_cells {P : Program} {w : World} {r : Reach} {base : Nat} {t : TypeId} {fs : Array Field} {v : Value} {cs : List Value} (hu : P.underlying t = some (.struct fs)) (hv : Value.okWide P w r base t v) (hc : v.cells.toList = cs) : v = .agg cs.toArray := by
  obtain ⟨c, rfl, _⟩ := okWide_struct hu hv
  simp only [Value.cells] at hc
  subst hc
  simp
end Go.Proofs.Yteagogcpbcickaa.Open
/- The statement FnExactReadPickSaid of the law FnExactReadPick: for every input the call returns true and its arguments read as before. Conditions: none. (Written by a program of this session: wip/gen/row.py.) -/
namespace Go.Proofs.Yteagogcpbcickaa.fnExactReadPick
open Go.ChangeShapes Go.WideShapes Go.ChangeAt Go.RowKit Go.Proofs.Yteagogcpbcickaa.Open Go.Proofs.Yteagogcpbcickaa.G Go.Proofs.YteagogcpbcickaaW.PrintWords
open Go.ChangeMaps (open_string shut_string)
set_option linter.unusedVariables false
theorem own : ownKnob Try.prog.godebug = none := by kernel_rfl
set_option maxRecDepth 100000 in
theorem lifted (os : Os) (started : os.Started) (H : Type) (enc : TypeId × Value → H) :
    ReturnsInHanded {} Try.checked os 14 .any (Rows.fnExactReadPickSpec.pre6 enc Try.prog Try.f14 Rows.fnExactReadPickRow.domain false) (Rows.fnExactReadPickSpec.post enc Try.prog Try.f14 false true false false) := by
  refine returnsInHanded_of_change (C := Try.checked) own started (by kernel_rfl) Try.func14
    (ChangeSpec.witness6 (enc := enc) (C := Try.checked) false ⟨#[], #[.string ByteArray.empty], []⟩ 8 (by kernel_rfl) (by kernel_rfl) (by kernel_rfl) (by kernel_rfl)) ?_
  intro W base args ds gs before hval0 hW hcnd _
  have hval : ∀ (j : Nat) t v, Try.f14.params[j]? = some t → args[j]? = some v → Value.okWide Try.prog W .any base t v := hval0
  have hW' := hW
  obtain ⟨p, q, hA0, hV, rfl, hfz, hnd⟩ := hW
  have hA : DataW.TrodAll enc Try.prog W 0 (fun _ => true) true Try.f14.params.toList args.toList ds p := hA0
  rw [Try.params14] at hA hval
  obtain ⟨v0, vs0, d0, ds0, p0, q0, hargs, rfl, rfl, h0, r0⟩ := trodAll_cons hA
  obtain ⟨rfl, rfl, rfl⟩ := trodAll_nil r0
  obtain rfl : args = #[v0] := by cases args; simp_all
  obtain ⟨rfl, rfl⟩ := trodVars_none hV
  obtain ⟨a0, rfl, rfl, rfl, ok0⟩ := open_string Try.underlying9 (hval 0 9 v0 rfl rfl) h0
  clear hA0 hval0
  obtain ⟨k, hk⟩ := Pure.FnExactReadPick_pure a0 ok0
  refine (laws_FnExactReadPick.calls k a0 true W rfl hk).mono fun e W' ⟨he, bel0⟩ => ?_
  have bel : Below W.heap.size W W' := bel0
  subst he
  exact ⟨_, rfl, _, _, _, [], _, [], hW', trodAll_mk1 (shut_bool Try.underlying4 _), (trodAll_cons_mk (shut_string Try.underlying9 ok0) trodAll_mk0), rfl, bel.frame _, fun h => by cases h⟩
theorem over : Rows.fnExactReadPickRow.holds Try.pinned (OpenSpec.ofChange Rows.fnExactReadPickSpec) :=
  OpenClaim.holds_of_wide 14 Try.f14 rfl rfl rfl rfl rfl rfl rfl ⟨rfl, rfl, rfl, rfl, rfl⟩ rfl rfl rfl rfl rfl (by kernel_rfl) Try.func14 (by kernel_rfl)
    (of_decide_eq_true (by kernel_rfl)) (by unfold Func.isWrapper; first | (rw [if_pos (by decide +kernel)]; kernel_rfl) | (rw [if_neg (by decide +kernel)]; exact ⟨rfl, rfl⟩))
    (fun os started H enc _ => lifted os started H enc)
theorem proved : Rows.FnExactReadPickSaid := over
end Go.Proofs.Yteagogcpbcickaa.fnExactReadPick
namespace Go.Proofs.Yteagogcpbcickaa
/-- The given statement. -/
theorem fnExactReadPick_holds : Rows.FnExactReadPickSaid := fnExactReadPick.proved
#print axioms fnExactReadPick_holds
end Go.Proofs.Yteagogcpbcickaa
