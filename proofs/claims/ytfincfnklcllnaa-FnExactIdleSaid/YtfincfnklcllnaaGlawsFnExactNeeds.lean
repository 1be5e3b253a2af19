-- written by a program of this session (wip/gen/gen.py); Lean checks it
import Derived.Test.YtfincfnklcllnaaG0
import Derived.Test.YtfincfnklcllnaaGimplNeeds
import Derived.Test.YtfincfnklcllnaaGlawseqIntS
import Derived.Test.YtfincfnklcllnaaGlawsheldIntS
import Derived.Test.YtfincfnklcllnaaGlawsmarkIntS
import Derived.Test.YtfincfnklcllnaaGlawsszTable
import Derived.Test.YtfincfnklcllnaaGlawstoTable
import Derived.Test.YtfincfnklcllnaaGspecNeeds
namespace Go.Proofs.Ytfincfnklcllnaa.G
open Go.RowKit Go.Proofs.YtfincfnklcllnaaW.PrintWords Go.Proofs.YtfincfnklcllnaaW.PrintLast Go.Proofs.YtfincfnklcllnaaW.PrintMore
attribute [local go_sem] max2_int min2_int max_two min_two max_three min_three max_four min_four   -- for this text's walks alone
set_option linter.unusedVariables false
set_option linter.unusedSimpArgs false

/-! ### laws_FnExactNeeds: function 10 -/
def laws_FnExactNeeds.f (k : Nat) (a0_0 : Int) (a0_1 : ByteArray) : Option (Bool) := (laws_szTable.f a0_0 a0_1 1048576).bind fun t384 => (if t384 < 0 then (some true) else ((laws_toTable.f a0_0 a0_1).bind fun bt385 => ((spec_Needs.f k bt385.1 bt385.2).bind fun t387 => ((laws_toTable.f a0_0 a0_1).bind fun bt390 => ((impl_Needs.f k bt390.1 bt390.2).bind fun t392 => ((laws_eqIntS.f k t392 t387).bind fun t395 => (if t395 = true then ((laws_markIntS.f k t392 1).bind fun bt396 => ((laws_heldIntS.f k bt396.2 1).bind fun t398 => (if t398 < 0 then (some false) else (if t398 = bt396.1 then ((laws_toTable.f a0_0 a0_1).bind fun bt399 => ((impl_Needs.f k bt399.1 bt399.2).bind fun t401 => ((laws_eqIntS.f k t401 t387).bind fun t404 => (if t404 = true then ((laws_heldIntS.f k bt396.2 1).bind fun t405 => (if t405 < 0 then (some false) else (if t405 = bt396.1 then (some true) else (some false)))) else (some false))))) else (some false))))) else (some false))))))))
theorem laws_FnExactNeeds.mono : ∀ a0 a1 k, LeO (laws_FnExactNeeds.f k a0 a1) (laws_FnExactNeeds.f (k + 1) a0 a1) := by
  intro a0 a1 k
  unfold laws_FnExactNeeds.f
  repeat' first
      | (with_reducible exact impl_Needs.mono _ _ _)
      | (with_reducible exact laws_eqIntS.mono _ _ _)
      | (with_reducible exact laws_heldIntS.mono _ _ _)
      | (with_reducible exact laws_markIntS.mono _ _ _)
      | (with_reducible exact spec_Needs.mono _ _ _)
      | (with_reducible exact LeO.refl _)
      | (with_reducible exact LeO.none _)
      | (with_reducible refine LeO.ite ?_ ?_)
      | (with_reducible refine LeO.bind ?_ (fun _ => ?_))
      | exact impl_Needs.mono _ _ _
      | exact laws_eqIntS.mono _ _ _
      | exact laws_heldIntS.mono _ _ _
      | exact laws_markIntS.mono _ _ _
      | exact spec_Needs.mono _ _ _
      | exact LeO.none _
      | refine LeO.ite ?_ ?_
      | refine LeO.bind ?_ (fun _ => ?_)
set_option maxHeartbeats 8000000 in
set_option maxRecDepth 100000 in
theorem laws_FnExactNeeds.calls (k : Nat) (a0_0 : Int) (a0_1 : ByteArray) (r : Bool) (w : World) (ht_ : r = true) (h : laws_FnExactNeeds.f k a0_0 a0_1 = some r) :
    Calls Try.prog 10 #[.agg #[.int .i64 a0_0, .string a0_1]] w fun e w' => e = .returned (.bool r) ∧ Below w.heap.size w w' := by
  have hu30 := Try.underlying30
  have HT := Aside0.mk ht_
  clear ht_
  have HB := Aside0.mk (Below.refl w.heap.size w)
  have H : ((laws_szTable.f a0_0 a0_1 1048576).bind fun t384 => (if t384 < 0 then (some true) else ((laws_toTable.f a0_0 a0_1).bind fun bt385 => ((spec_Needs.f k bt385.1 bt385.2).bind fun t387 => ((laws_toTable.f a0_0 a0_1).bind fun bt390 => ((impl_Needs.f k bt390.1 bt390.2).bind fun t392 => ((laws_eqIntS.f k t392 t387).bind fun t395 => (if t395 = true then ((laws_markIntS.f k t392 1).bind fun bt396 => ((laws_heldIntS.f k bt396.2 1).bind fun t398 => (if t398 < 0 then (some false) else (if t398 = bt396.1 then ((laws_toTable.f a0_0 a0_1).bind fun bt399 => ((impl_Needs.f k bt399.1 bt399.2).bind fun t401 => ((laws_eqIntS.f k t401 t387).bind fun t404 => (if t404 = true then ((laws_heldIntS.f k bt396.2 1).bind fun t405 => (if t405 < 0 then (some false) else (if t405 = bt396.1 then (some true) else (some false)))) else (some false))))) else (some false))))) else (some false))))))))) = some r := h
  clear h
  replace H := Option.bind_eq_some_iff.mp H
  obtain ⟨t384, A20, H⟩ := H
  replace H : (if t384 < 0 then (some true) else ((laws_toTable.f a0_0 a0_1).bind fun bt385 => ((spec_Needs.f k bt385.1 bt385.2).bind fun t387 => ((laws_toTable.f a0_0 a0_1).bind fun bt390 => ((impl_Needs.f k bt390.1 bt390.2).bind fun t392 => ((laws_eqIntS.f k t392 t387).bind fun t395 => (if t395 = true then ((laws_markIntS.f k t392 1).bind fun bt396 => ((laws_heldIntS.f k bt396.2 1).bind fun t398 => (if t398 < 0 then (some false) else (if t398 = bt396.1 then ((laws_toTable.f a0_0 a0_1).bind fun bt399 => ((impl_Needs.f k bt399.1 bt399.2).bind fun t401 => ((laws_eqIntS.f k t401 t387).bind fun t404 => (if t404 = true then ((laws_heldIntS.f k bt396.2 1).bind fun t405 => (if t405 < 0 then (some false) else (if t405 = bt396.1 then (some true) else (some false)))) else (some false))))) else (some false))))) else (some false)))))))) = some r := H
  have A2 := Aside0.mk A20
  clear A20
  by_cases c3 : t384 < 0
  · rw [if_pos c3] at H
    have c3b0 : decide (t384 < 0) = true := decide_eq_true c3
    clear c3
    obtain rfl := Option.some.inj H
    go_enter Try.func10, Try.ntmps10
    go_wp2_with (first | ((with_reducible refine gate_dst (N := 1) rfl ?_); refine box_event ?hg (N := 1) ?hd (cs := #[.int .i64 a0_0, .string a0_1]) (t := 30) ?hr ?_; (case hd => rfl); (case hg => rfl); (case hr => first | (go_simp; done) | (go_simp; rfl)); intro gb383 hg w4 hbox hb; have n0_ := Aside0.mk (below_step (by repeat (first | (with_reducible first | exact HB.out | apply below_alloc | apply pw_below_drewN | apply below_drew1) | exact HB.out)) hb); have n1_ := Aside0.mk (hbox); have n2_ := Aside0.mk ((by rw [hg]; exact (below_size (by repeat (first | (with_reducible first | exact HB.out | apply below_alloc | apply pw_below_drewN | apply below_drew1) | exact HB.out))) : w.heap.size ≤ gb383)); have n3_ := Aside0.mk ((by rw [hg]; exact (below_size (by repeat (first | (with_reducible first | exact HB.out | apply below_alloc | apply pw_below_drewN | apply below_drew1) | exact HB.out))) : w.heap.size ≤ gb383)); clear HB; have HB := n0_; have BK383 := n1_; have GW383 := n2_; have GE383 := n3_; clear n0_ n1_ n2_ n3_; clear hb hbox hg; have hcz5_0 : w4.cell? ⟨gb383, 0, none⟩ = some (.int .i64 a0_0) := (blk_cell BK383.out 0).trans rfl; have hcz5_1 : w4.cell? ⟨gb383, 1, none⟩ = some (.string a0_1) := (blk_cell BK383.out 1).trans rfl; have hfz5_0 := blk_frozen BK383.out 0; have hfz5_1 := blk_frozen BK383.out 1) | ((with_reducible refine gate_callee (f := 23) rfl ?_); refine goesL_ (some 11) rfl rfl Try.func23 (by kernel_rfl) rfl #[.agg #[.int .i64 a0_0, .string a0_1], .int .i64 1048576] rfl (by (try simp only [List.map_toArray, List.map_cons, List.map_nil]); first | done | rfl | (simp only [List.length_drop, List.length_take]; rfl)) ?_; (with_reducible refine (laws_szTable.calls a0_0 a0_1 1048576 t384 _ A2.out).mono ?_); rintro e w6 ⟨rfl, hb⟩; refine ⟨_, rfl, ?_⟩; have n0_ := Aside0.mk (blk_below (g := gb383) (o := .cells #[.int .i64 a0_0, .string a0_1] 30 (0, 0)) (by (with_reducible repeat (first | refine blk_drewN ?_ _ | refine blk_drew ?_ | refine blk_alloc ?_ _)); exact BK383.out) hb); have n1_ := Aside0.mk (below_step (by repeat (first | (with_reducible first | exact HB.out | apply below_alloc | apply pw_below_drewN | apply below_drew1 | refine below_set ?_ GE383.out) | exact HB.out)) hb); clear BK383; clear HB; have BK383 := n0_; have HB := n1_; clear n0_ n1_; (try clear hb); (try clear hb2); (try clear hk); (try clear hi)))
    go_ret
    exact ⟨by first | rfl | (simp [errW_none, errW_some] <;> rfl) | (simp [*, errW_none, errW_some] <;> rfl), by repeat (first | (with_reducible first | exact HB.out | apply below_alloc | apply pw_below_drewN | apply below_drew1 | refine below_set ?_ GE383.out) | exact HB.out)⟩
  · rw [if_neg c3] at H
    have c3b0 : decide (t384 < 0) = false := decide_eq_false c3
    clear c3
    replace H := Option.bind_eq_some_iff.mp H
    obtain ⟨⟨t385, t386⟩, A70, H⟩ := H
    replace H : ((spec_Needs.f k t385 t386).bind fun t387 => ((laws_toTable.f a0_0 a0_1).bind fun bt390 => ((impl_Needs.f k bt390.1 bt390.2).bind fun t392 => ((laws_eqIntS.f k t392 t387).bind fun t395 => (if t395 = true then ((laws_markIntS.f k t392 1).bind fun bt396 => ((laws_heldIntS.f k bt396.2 1).bind fun t398 => (if t398 < 0 then (some false) else (if t398 = bt396.1 then ((laws_toTable.f a0_0 a0_1).bind fun bt399 => ((impl_Needs.f k bt399.1 bt399.2).bind fun t401 => ((laws_eqIntS.f k t401 t387).bind fun t404 => (if t404 = true then ((laws_heldIntS.f k bt396.2 1).bind fun t405 => (if t405 < 0 then (some false) else (if t405 = bt396.1 then (some true) else (some false)))) else (some false))))) else (some false))))) else (some false)))))) = some r := H
    have A7 := Aside0.mk A70
    clear A70
    replace H := Option.bind_eq_some_iff.mp H
    obtain ⟨t387, A80, H⟩ := H
    replace H : ((laws_toTable.f a0_0 a0_1).bind fun bt390 => ((impl_Needs.f k bt390.1 bt390.2).bind fun t392 => ((laws_eqIntS.f k t392 t387).bind fun t395 => (if t395 = true then ((laws_markIntS.f k t392 1).bind fun bt396 => ((laws_heldIntS.f k bt396.2 1).bind fun t398 => (if t398 < 0 then (some false) else (if t398 = bt396.1 then ((laws_toTable.f a0_0 a0_1).bind fun bt399 => ((impl_Needs.f k bt399.1 bt399.2).bind fun t401 => ((laws_eqIntS.f k t401 t387).bind fun t404 => (if t404 = true then ((laws_heldIntS.f k bt396.2 1).bind fun t405 => (if t405 < 0 then (some false) else (if t405 = bt396.1 then (some true) else (some false)))) else (some false))))) else (some false))))) else (some false))))) = some r := H
    have A8 := Aside0.mk A80
    clear A80
    replace H := Option.bind_eq_some_iff.mp H
    obtain ⟨⟨t390, t391⟩, A90, H⟩ := H
    replace H : ((impl_Needs.f k t390 t391).bind fun t392 => ((laws_eqIntS.f k t392 t387).bind fun t395 => (if t395 = true then ((laws_markIntS.f k t392 1).bind fun bt396 => ((laws_heldIntS.f k bt396.2 1).bind fun t398 => (if t398 < 0 then (some false) else (if t398 = bt396.1 then ((laws_toTable.f a0_0 a0_1).bind fun bt399 => ((impl_Needs.f k bt399.1 bt399.2).bind fun t401 => ((laws_eqIntS.f k t401 t387).bind fun t404 => (if t404 = true then ((laws_heldIntS.f k bt396.2 1).bind fun t405 => (if t405 < 0 then (some false) else (if t405 = bt396.1 then (some true) else (some false)))) else (some false))))) else (some false))))) else (some false)))) = some r := H
    have A9 := Aside0.mk A90
    clear A90
    replace H := Option.bind_eq_some_iff.mp H
    obtain ⟨t392, A100, H⟩ := H
    replace H : ((laws_eqIntS.f k t392 t387).bind fun t395 => (if t395 = true then ((laws_markIntS.f k t392 1).bind fun bt396 => ((laws_heldIntS.f k bt396.2 1).bind fun t398 => (if t398 < 0 then (some false) else (if t398 = bt396.1 then ((laws_toTable.f a0_0 a0_1).bind fun bt399 => ((impl_Needs.f k bt399.1 bt399.2).bind fun t401 => ((laws_eqIntS.f k t401 t387).bind fun t404 => (if t404 = true then ((laws_heldIntS.f k bt396.2 1).bind fun t405 => (if t405 < 0 then (some false) else (if t405 = bt396.1 then (some true) else (some false)))) else (some false))))) else (some false))))) else (some false))) = some r := H
    have A10 := Aside0.mk A100
    clear A100
    replace H := Option.bind_eq_some_iff.mp H
    obtain ⟨t395, A110, H⟩ := H
    replace H : (if t395 = true then ((laws_markIntS.f k t392 1).bind fun bt396 => ((laws_heldIntS.f k bt396.2 1).bind fun t398 => (if t398 < 0 then (some false) else (if t398 = bt396.1 then ((laws_toTable.f a0_0 a0_1).bind fun bt399 => ((impl_Needs.f k bt399.1 bt399.2).bind fun t401 => ((laws_eqIntS.f k t401 t387).bind fun t404 => (if t404 = true then ((laws_heldIntS.f k bt396.2 1).bind fun t405 => (if t405 < 0 then (some false) else (if t405 = bt396.1 then (some true) else (some false)))) else (some false))))) else (some false))))) else (some false)) = some r := H
    have A11 := Aside0.mk A110
    clear A110
    by_cases c12 : t395 = true
    · subst c12
      have H1 : ((laws_markIntS.f k t392 1).bind fun bt396 => ((laws_heldIntS.f k bt396.2 1).bind fun t398 => (if t398 < 0 then (some false) else (if t398 = bt396.1 then ((laws_toTable.f a0_0 a0_1).bind fun bt399 => ((impl_Needs.f k bt399.1 bt399.2).bind fun t401 => ((laws_eqIntS.f k t401 t387).bind fun t404 => (if t404 = true then ((laws_heldIntS.f k bt396.2 1).bind fun t405 => (if t405 < 0 then (some false) else (if t405 = bt396.1 then (some true) else (some false)))) else (some false))))) else (some false))))) = some r := by rw [if_pos rfl] at H; exact H
      clear H
      have H := H1
      clear H1
      replace H := Option.bind_eq_some_iff.mp H
      obtain ⟨⟨t396, t397⟩, A130, H⟩ := H
      replace H : ((laws_heldIntS.f k t397 1).bind fun t398 => (if t398 < 0 then (some false) else (if t398 = t396 then ((laws_toTable.f a0_0 a0_1).bind fun bt399 => ((impl_Needs.f k bt399.1 bt399.2).bind fun t401 => ((laws_eqIntS.f k t401 t387).bind fun t404 => (if t404 = true then ((laws_heldIntS.f k t397 1).bind fun t405 => (if t405 < 0 then (some false) else (if t405 = t396 then (some true) else (some false)))) else (some false))))) else (some false)))) = some r := H
      have A13 := Aside0.mk A130
      clear A130
      replace H := Option.bind_eq_some_iff.mp H
      obtain ⟨t398, A140, H⟩ := H
      replace H : (if t398 < 0 then (some false) else (if t398 = t396 then ((laws_toTable.f a0_0 a0_1).bind fun bt399 => ((impl_Needs.f k bt399.1 bt399.2).bind fun t401 => ((laws_eqIntS.f k t401 t387).bind fun t404 => (if t404 = true then ((laws_heldIntS.f k t397 1).bind fun t405 => (if t405 < 0 then (some false) else (if t405 = t396 then (some true) else (some false)))) else (some false))))) else (some false))) = some r := H
      have A14 := Aside0.mk A140
      clear A140
      by_cases c15 : t398 < 0
      · rw [if_pos c15] at H
        have c15b0 : decide (t398 < 0) = true := decide_eq_true c15
        clear c15
        exact absurd ((Option.some.inj H).trans HT.out) (by decide)
      · rw [if_neg c15] at H
        have c15b0 : decide (t398 < 0) = false := decide_eq_false c15
        clear c15
        by_cases c16 : t398 = t396
        · rw [if_pos c16] at H
          have c16b0 : (t398 == t396) = true := beq_iff_eq.mpr c16
          have c16b1 : (t398 != t396) = false := bne_eq_false_iff_eq.mpr c16
          clear c16
          replace H := Option.bind_eq_some_iff.mp H
          obtain ⟨⟨t399, t400⟩, A170, H⟩ := H
          replace H : ((impl_Needs.f k t399 t400).bind fun t401 => ((laws_eqIntS.f k t401 t387).bind fun t404 => (if t404 = true then ((laws_heldIntS.f k t397 1).bind fun t405 => (if t405 < 0 then (some false) else (if t405 = t396 then (some true) else (some false)))) else (some false)))) = some r := H
          have A17 := Aside0.mk A170
          clear A170
          replace H := Option.bind_eq_some_iff.mp H
          obtain ⟨t401, A180, H⟩ := H
          replace H : ((laws_eqIntS.f k t401 t387).bind fun t404 => (if t404 = true then ((laws_heldIntS.f k t397 1).bind fun t405 => (if t405 < 0 then (some false) else (if t405 = t396 then (some true) else (some false)))) else (some false))) = some r := H
          have A18 := Aside0.mk A180
          clear A180
          replace H := Option.bind_eq_some_iff.mp H
          obtain ⟨t404, A190, H⟩ := H
          replace H : (if t404 = true then ((laws_heldIntS.f k t397 1).bind fun t405 => (if t405 < 0 then (some false) else (if t405 = t396 then (some true) else (some false)))) else (some false)) = some r := H
          have A19 := Aside0.mk A190
          clear A190
          by_cases c20 : t404 = true
          · subst c20
            have H1 : ((laws_heldIntS.f k t397 1).bind fun t405 => (if t405 < 0 then (some false) else (if t405 = t396 then (some true) else (some false)))) = some r := by rw [if_pos rfl] at H; exact H
            clear H
            have H := H1
            clear H1
            replace H := Option.bind_eq_some_iff.mp H
            obtain ⟨t405, A210, H⟩ := H
            replace H : (if t405 < 0 then (some false) else (if t405 = t396 then (some true) else (some false))) = some r := H
            have A21 := Aside0.mk A210
            clear A210
            by_cases c22 : t405 < 0
            · rw [if_pos c22] at H
              have c22b0 : decide (t405 < 0) = true := decide_eq_true c22
              clear c22
              exact absurd ((Option.some.inj H).trans HT.out) (by decide)
            · rw [if_neg c22] at H
              have c22b0 : decide (t405 < 0) = false := decide_eq_false c22
              clear c22
              by_cases c23 : t405 = t396
              · rw [if_pos c23] at H
                have c23b0 : (t405 == t396) = true := beq_iff_eq.mpr c23
                have c23b1 : (t405 != t396) = false := bne_eq_false_iff_eq.mpr c23
                clear c23
                obtain rfl := Option.some.inj H
                go_enter Try.func10, Try.ntmps10
                go_wp2_with (first | ((with_reducible refine gate_dst (N := 1) rfl ?_); refine box_event ?hg (N := 1) ?hd (cs := #[.int .i64 a0_0, .string a0_1]) (t := 30) ?hr ?_; (case hd => rfl); (case hg => rfl); (case hr => first | (go_simp; done) | (go_simp; rfl)); intro gb383 hg w24 hbox hb; have n0_ := Aside0.mk (below_step (by repeat (first | (with_reducible first | exact HB.out | apply below_alloc | apply pw_below_drewN | apply below_drew1) | exact HB.out)) hb); have n1_ := Aside0.mk (hbox); have n2_ := Aside0.mk ((by rw [hg]; exact (below_size (by repeat (first | (with_reducible first | exact HB.out | apply below_alloc | apply pw_below_drewN | apply below_drew1) | exact HB.out))) : w.heap.size ≤ gb383)); have n3_ := Aside0.mk ((by rw [hg]; exact (below_size (by repeat (first | (with_reducible first | exact HB.out | apply below_alloc | apply pw_below_drewN | apply below_drew1) | exact HB.out))) : w.heap.size ≤ gb383)); clear HB; have HB := n0_; have BK383 := n1_; have GW383 := n2_; have GE383 := n3_; clear n0_ n1_ n2_ n3_; clear hb hbox hg; have hcz25_0 : w24.cell? ⟨gb383, 0, none⟩ = some (.int .i64 a0_0) := (blk_cell BK383.out 0).trans rfl; have hcz25_1 : w24.cell? ⟨gb383, 1, none⟩ = some (.string a0_1) := (blk_cell BK383.out 1).trans rfl; have hfz25_0 := blk_frozen BK383.out 0; have hfz25_1 := blk_frozen BK383.out 1) | ((with_reducible refine gate_callee (f := 23) rfl ?_); refine goesL_ (some 11) rfl rfl Try.func23 (by kernel_rfl) rfl #[.agg #[.int .i64 a0_0, .string a0_1], .int .i64 1048576] rfl (by (try simp only [List.map_toArray, List.map_cons, List.map_nil]); first | done | rfl | (simp only [List.length_drop, List.length_take]; rfl)) ?_; (with_reducible refine (laws_szTable.calls a0_0 a0_1 1048576 t384 _ A2.out).mono ?_); rintro e w26 ⟨rfl, hb⟩; refine ⟨_, rfl, ?_⟩; have n0_ := Aside0.mk (blk_below (g := gb383) (o := .cells #[.int .i64 a0_0, .string a0_1] 30 (0, 0)) (by (with_reducible repeat (first | refine blk_drewN ?_ _ | refine blk_drew ?_ | refine blk_alloc ?_ _)); exact BK383.out) hb); have n1_ := Aside0.mk (below_step (by repeat (first | (with_reducible first | exact HB.out | apply below_alloc | apply pw_below_drewN | apply below_drew1 | refine below_set ?_ GE383.out) | exact HB.out)) hb); clear BK383; clear HB; have BK383 := n0_; have HB := n1_; clear n0_ n1_; (try clear hb); (try clear hb2); (try clear hk); (try clear hi); have hcz27_0 : w26.cell? ⟨gb383, 0, none⟩ = some (.int .i64 a0_0) := (blk_cell BK383.out 0).trans rfl; have hcz27_1 : w26.cell? ⟨gb383, 1, none⟩ = some (.string a0_1) := (blk_cell BK383.out 1).trans rfl; have hfz27_0 := blk_frozen BK383.out 0; have hfz27_1 := blk_frozen BK383.out 1) | ((with_reducible refine gate_callee (f := 25) rfl ?_); refine goesL_ (some 15) rfl rfl Try.func25 (by kernel_rfl) rfl #[.agg #[.int .i64 a0_0, .string a0_1]] rfl (by (try simp only [List.map_toArray, List.map_cons, List.map_nil]); first | done | rfl | (simp only [List.length_drop, List.length_take]; rfl)) ?_; (with_reducible refine (laws_toTable.calls a0_0 a0_1 t385 t386 _ A7.out).mono ?_); rintro e w28 ⟨rfl, hb⟩; refine ⟨_, rfl, ?_⟩; have n0_ := Aside0.mk (blk_below (g := gb383) (o := .cells #[.int .i64 a0_0, .string a0_1] 30 (0, 0)) (by (with_reducible repeat (first | refine blk_drewN ?_ _ | refine blk_drew ?_ | refine blk_alloc ?_ _)); exact BK383.out) hb); have n1_ := Aside0.mk (below_step (by repeat (first | (with_reducible first | exact HB.out | apply below_alloc | apply pw_below_drewN | apply below_drew1 | refine below_set ?_ GE383.out) | exact HB.out)) hb); clear BK383; clear HB; have BK383 := n0_; have HB := n1_; clear n0_ n1_; (try clear hb); (try clear hb2); (try clear hk); (try clear hi)) | ((with_reducible refine gate_callee (f := 38) rfl ?_); refine goesL_ (some 16) rfl rfl Try.func38 (by kernel_rfl) rfl #[.agg #[.int .i64 t385, .string t386]] rfl (by (try simp only [List.map_toArray, List.map_cons, List.map_nil]); first | done | rfl | (simp only [List.length_drop, List.length_take]; rfl)) ?_; (with_reducible refine (spec_Needs.calls k t385 t386 t387 _ A8.out).mono ?_); rintro e w29 ⟨v388, rfl, ho0, hb⟩; refine ⟨_, rfl, ?_⟩; have n0_ := Aside0.mk (Kd.R_lower ho0 (below_size (by repeat (first | (with_reducible first | exact HB.out | apply below_alloc | apply pw_below_drewN | apply below_drew1 | refine below_set ?_ GE383.out) | exact HB.out)))); have n1_ := Aside0.mk (blk_below (g := gb383) (o := .cells #[.int .i64 a0_0, .string a0_1] 30 (0, 0)) (by (with_reducible repeat (first | refine blk_drewN ?_ _ | refine blk_drew ?_ | refine blk_alloc ?_ _)); exact BK383.out) hb); have n2_ := Aside0.mk (below_step (by repeat (first | (with_reducible first | exact HB.out | apply below_alloc | apply pw_below_drewN | apply below_drew1 | refine below_set ?_ GE383.out) | exact HB.out)) hb); clear BK383; clear HB; have HO389 := n0_; have BK383 := n1_; have HB := n2_; clear n0_ n1_ n2_; (try clear hb); (try clear hb2); (try clear hk); (try clear hi); (try clear ho0); have hcz30_0 : w29.cell? ⟨gb383, 0, none⟩ = some (.int .i64 a0_0) := (blk_cell BK383.out 0).trans rfl; have hcz30_1 : w29.cell? ⟨gb383, 1, none⟩ = some (.string a0_1) := (blk_cell BK383.out 1).trans rfl; have hfz30_0 := blk_frozen BK383.out 0; have hfz30_1 := blk_frozen BK383.out 1) | ((with_reducible refine gate_callee (f := 25) rfl ?_); refine goesL_ (some 18) rfl rfl Try.func25 (by kernel_rfl) rfl #[.agg #[.int .i64 a0_0, .string a0_1]] rfl (by (try simp only [List.map_toArray, List.map_cons, List.map_nil]); first | done | rfl | (simp only [List.length_drop, List.length_take]; rfl)) ?_; (with_reducible refine (laws_toTable.calls a0_0 a0_1 t390 t391 _ A9.out).mono ?_); rintro e w31 ⟨rfl, hb⟩; refine ⟨_, rfl, ?_⟩; have n0_ := Aside0.mk (Kd.R_below (by (with_reducible repeat (first | apply Kd.R_alloc | apply Kd.R_drewN | apply Kd.R_drew)); exact HO389.out) hb); have n1_ := Aside0.mk (blk_below (g := gb383) (o := .cells #[.int .i64 a0_0, .string a0_1] 30 (0, 0)) (by (with_reducible repeat (first | refine blk_drewN ?_ _ | refine blk_drew ?_ | refine blk_alloc ?_ _)); exact BK383.out) hb); have n2_ := Aside0.mk (below_step (by repeat (first | (with_reducible first | exact HB.out | apply below_alloc | apply pw_below_drewN | apply below_drew1 | refine below_set ?_ GE383.out) | exact HB.out)) hb); clear HO389; clear BK383; clear HB; have HO389 := n0_; have BK383 := n1_; have HB := n2_; clear n0_ n1_ n2_; (try clear hb); (try clear hb2); (try clear hk); (try clear hi)) | ((with_reducible refine gate_callee (f := 39) rfl ?_); refine goesL_ (some 19) rfl rfl Try.func39 (by kernel_rfl) rfl #[.agg #[.int .i64 t390, .string t391]] rfl (by (try simp only [List.map_toArray, List.map_cons, List.map_nil]); first | done | rfl | (simp only [List.length_drop, List.length_take]; rfl)) ?_; (with_reducible refine (impl_Needs.calls k t390 t391 t392 _ A10.out).mono ?_); rintro e w32 ⟨v393, rfl, ho0, hb⟩; refine ⟨_, rfl, ?_⟩; have n0_ := Aside0.mk (Kd.R_elder' (by (with_reducible repeat (first | apply Kd.R_alloc | apply Kd.R_drewN | apply Kd.R_drew)); exact HO389.out) (Kd.R_base ho0) hb); have n1_ := Aside0.mk (Kd.R_lower (Kd.R_new' ho0 (Kd.R_lt (by (with_reducible repeat (first | apply Kd.R_alloc | apply Kd.R_drewN | apply Kd.R_drew)); exact HO389.out))) (below_size (by repeat (first | (with_reducible first | exact HB.out | apply below_alloc | apply pw_below_drewN | apply below_drew1 | refine below_set ?_ GE383.out) | exact HB.out)))); have n2_ := Aside0.mk (blk_below (g := gb383) (o := .cells #[.int .i64 a0_0, .string a0_1] 30 (0, 0)) (by (with_reducible repeat (first | refine blk_drewN ?_ _ | refine blk_drew ?_ | refine blk_alloc ?_ _)); exact BK383.out) hb); have n3_ := Aside0.mk (below_step (by repeat (first | (with_reducible first | exact HB.out | apply below_alloc | apply pw_below_drewN | apply below_drew1 | refine below_set ?_ GE383.out) | exact HB.out)) hb); clear HO389; clear BK383; clear HB; have HO389 := n0_; have HO394 := n1_; have BK383 := n2_; have HB := n3_; clear n0_ n1_ n2_ n3_; (try clear hb); (try clear hb2); (try clear hk); (try clear hi); (try clear ho0); obtain ⟨Ao33, co33, eo33⟩ := Kd.R_slice HO394.out; subst eo33; obtain ⟨Ao34, co34, eo34⟩ := Kd.R_slice HO389.out; subst eo34) | ((with_reducible refine gate_callee (f := 37) rfl ?_); refine goesL_ (some 22) rfl rfl Try.func37 (by kernel_rfl) rfl #[.slice Ao33 t392.length co33, .slice Ao34 t387.length co34] rfl (by (try simp only [List.map_toArray, List.map_cons, List.map_nil]); first | done | rfl | (simp only [List.length_drop, List.length_take]; rfl)) ?_; (with_reducible refine (laws_eqIntS.calls k _ _ t392 _ _ t387 true _ ?side1 ?side2 ?side3 ?side4 A11.out).mono ?_); (case side1 => repeat (first | exact (Kd.R_reads' HO394.out).2.2 | (with_reducible refine Kd.C_alloc ?_ _) | (with_reducible refine Kd.C_drewN ?_ _) | (with_reducible refine Kd.C_drew ?_))); (case side2 => exact (Kd.R_reads' HO394.out).2.1); (case side3 => repeat (first | exact (Kd.R_reads' HO389.out).2.2 | (with_reducible refine Kd.C_alloc ?_ _) | (with_reducible refine Kd.C_drewN ?_ _) | (with_reducible refine Kd.C_drew ?_))); (case side4 => exact (Kd.R_reads' HO389.out).2.1); rintro e w' ⟨rfl, ⟨nd, rfl⟩⟩; refine ⟨_, rfl, ?_⟩) | ((with_reducible refine gate_callee (f := 40) rfl ?_); refine goesL_ (some 26) rfl rfl Try.func40 (by kernel_rfl) rfl #[.slice Ao33 t392.length co33, .int .i64 1] rfl (by (try simp only [List.map_toArray, List.map_cons, List.map_nil]); first | done | rfl | (simp only [List.length_drop, List.length_take]; rfl)) ?_; (with_reducible refine (laws_markIntS.calls k (fun k_ => some k_ = (.slice Ao33 t392.length co33 : Value).ownBlock) (.slice Ao33 t392.length co33) t392 1 t396 t397 w _ ?side1 ?side2 A13.out).mono ?_); (case side1 => repeat (first | (with_reducible first | exact HB.out | apply below_alloc | apply pw_below_drewN | apply below_drew1 | refine below_set ?_ GE383.out) | exact HB.out)); (case side2 => exact Kd.R_tight rfl HO394.out); rintro e w35 ⟨rfl, hy0, hb, hkp⟩; refine ⟨_, rfl, ?_⟩; have n0_ := Aside0.mk (blk_kept (by (with_reducible repeat (first | refine blk_drewN ?_ _ | refine blk_drew ?_ | refine blk_alloc ?_ _)); exact BK383.out) hkp (fun hs_ => (fun e_ => (Kd.R_ne HO394.out BK383.out (by decide)) e_) hs_)); have n1_ := Aside0.mk (Kd.R_mono (ok' := fun k_ => some k_ ≠ (.slice Ao33 t392.length co33 : Value).ownBlock) (Kd.R_keptB (HO389.out) hkp (fun k_ hk_ hs_ => (hk_.2) hs_)) (fun k_ hk_ => hk_.1.2)); have n2_ := Aside0.mk (Kd.R_reok rfl hy0 (fun k_ e_ => HO394.out.1 k_ e_)); have n3_ := Aside0.mk (hb); clear BK383; clear HO389; clear HO394; clear HB; have BK383 := n0_; have HO389 := n1_; have HO394 := n2_; have HB := n3_; clear n0_ n1_ n2_ n3_; (try clear hb); (try clear hkp); (try clear hy0)) | ((with_reducible refine gate_callee (f := 41) rfl ?_); refine goesL_ (some 29) rfl rfl Try.func41 (by kernel_rfl) rfl #[.slice Ao33 t397.length co33, .int .i64 1] rfl (by (try simp only [List.map_toArray, List.map_cons, List.map_nil]); first | done | (rw [show t397.length = t392.length from (Kd.R_reads' HO394.out).1.symm] <;> rfl) | rfl | (simp only [List.length_drop, List.length_take]; rfl)) ?_; (with_reducible refine (laws_heldIntS.calls k _ _ t397 1 t398 _ ?side1 ?side2 A14.out).mono ?_); (case side1 => repeat (first | exact (Kd.R_reads' HO394.out).2.2 | (with_reducible refine Kd.C_alloc ?_ _) | (with_reducible refine Kd.C_drewN ?_ _) | (with_reducible refine Kd.C_drew ?_))); (case side2 => rw [show t397.length = t392.length from (Kd.R_reads' HO394.out).1.symm]; exact (Kd.R_reads' HO394.out).2.1); rintro e w' ⟨rfl, ⟨nd, rfl⟩⟩; refine ⟨_, rfl, ?_⟩; have hcz36_0 : w35.cell? ⟨gb383, 0, none⟩ = some (.int .i64 a0_0) := (blk_cell BK383.out 0).trans rfl; have hcz36_1 : w35.cell? ⟨gb383, 1, none⟩ = some (.string a0_1) := (blk_cell BK383.out 1).trans rfl; have hfz36_0 := blk_frozen BK383.out 0; have hfz36_1 := blk_frozen BK383.out 1) | ((with_reducible refine gate_callee (f := 25) rfl ?_); refine goesL_ (some 36) rfl rfl Try.func25 (by kernel_rfl) rfl #[.agg #[.int .i64 a0_0, .string a0_1]] rfl (by (try simp only [List.map_toArray, List.map_cons, List.map_nil]); first | done | rfl | (simp only [List.length_drop, List.length_take]; rfl)) ?_; (with_reducible refine (laws_toTable.calls a0_0 a0_1 t399 t400 _ A17.out).mono ?_); rintro e w37 ⟨rfl, hb⟩; refine ⟨_, rfl, ?_⟩; have n0_ := Aside0.mk (Kd.R_below (by (with_reducible repeat (first | apply Kd.R_alloc | apply Kd.R_drewN | apply Kd.R_drew)); exact HO389.out) hb); have n1_ := Aside0.mk (Kd.R_below (by (with_reducible repeat (first | apply Kd.R_alloc | apply Kd.R_drewN | apply Kd.R_drew)); exact HO394.out) hb); have n2_ := Aside0.mk (blk_below (g := gb383) (o := .cells #[.int .i64 a0_0, .string a0_1] 30 (0, 0)) (by (with_reducible repeat (first | refine blk_drewN ?_ _ | refine blk_drew ?_ | refine blk_alloc ?_ _)); exact BK383.out) hb); have n3_ := Aside0.mk (below_step (by repeat (first | (with_reducible first | exact HB.out | apply below_alloc | apply pw_below_drewN | apply below_drew1 | refine below_set ?_ GE383.out) | exact HB.out)) hb); clear HO389; clear HO394; clear BK383; clear HB; have HO389 := n0_; have HO394 := n1_; have BK383 := n2_; have HB := n3_; clear n0_ n1_ n2_ n3_; (try clear hb); (try clear hb2); (try clear hk); (try clear hi)) | ((with_reducible refine gate_callee (f := 39) rfl ?_); refine goesL_ (some 37) rfl rfl Try.func39 (by kernel_rfl) rfl #[.agg #[.int .i64 t399, .string t400]] rfl (by (try simp only [List.map_toArray, List.map_cons, List.map_nil]); first | done | rfl | (simp only [List.length_drop, List.length_take]; rfl)) ?_; (with_reducible refine (impl_Needs.calls k t399 t400 t401 _ A18.out).mono ?_); rintro e w38 ⟨v402, rfl, ho0, hb⟩; refine ⟨_, rfl, ?_⟩; have n0_ := Aside0.mk (Kd.R_elder' (by (with_reducible repeat (first | apply Kd.R_alloc | apply Kd.R_drewN | apply Kd.R_drew)); exact HO389.out) (Kd.R_base ho0) hb); have n1_ := Aside0.mk (Kd.R_elder' (by (with_reducible repeat (first | apply Kd.R_alloc | apply Kd.R_drewN | apply Kd.R_drew)); exact HO394.out) (Kd.R_base ho0) hb); have n2_ := Aside0.mk (Kd.R_lower (Kd.R_new' (Kd.R_new' ho0 (Kd.R_lt (by (with_reducible repeat (first | apply Kd.R_alloc | apply Kd.R_drewN | apply Kd.R_drew)); exact HO389.out))) (Kd.R_lt (by (with_reducible repeat (first | apply Kd.R_alloc | apply Kd.R_drewN | apply Kd.R_drew)); exact HO394.out))) (below_size (by repeat (first | (with_reducible first | exact HB.out | apply below_alloc | apply pw_below_drewN | apply below_drew1 | refine below_set ?_ GE383.out) | exact HB.out)))); have n3_ := Aside0.mk (blk_below (g := gb383) (o := .cells #[.int .i64 a0_0, .string a0_1] 30 (0, 0)) (by (with_reducible repeat (first | refine blk_drewN ?_ _ | refine blk_drew ?_ | refine blk_alloc ?_ _)); exact BK383.out) hb); have n4_ := Aside0.mk (below_step (by repeat (first | (with_reducible first | exact HB.out | apply below_alloc | apply pw_below_drewN | apply below_drew1 | refine below_set ?_ GE383.out) | exact HB.out)) hb); clear HO389; clear HO394; clear BK383; clear HB; have HO389 := n0_; have HO394 := n1_; have HO403 := n2_; have BK383 := n3_; have HB := n4_; clear n0_ n1_ n2_ n3_ n4_; (try clear hb); (try clear hb2); (try clear hk); (try clear hi); (try clear ho0); obtain ⟨Ao39, co39, eo39⟩ := Kd.R_slice HO403.out; subst eo39) | ((with_reducible refine gate_callee (f := 37) rfl ?_); refine goesL_ (some 40) rfl rfl Try.func37 (by kernel_rfl) rfl #[.slice Ao39 t401.length co39, .slice Ao34 t387.length co34] rfl (by (try simp only [List.map_toArray, List.map_cons, List.map_nil]); first | done | rfl | (simp only [List.length_drop, List.length_take]; rfl)) ?_; (with_reducible refine (laws_eqIntS.calls k _ _ t401 _ _ t387 true _ ?side1 ?side2 ?side3 ?side4 A19.out).mono ?_); (case side1 => repeat (first | exact (Kd.R_reads' HO403.out).2.2 | (with_reducible refine Kd.C_alloc ?_ _) | (with_reducible refine Kd.C_drewN ?_ _) | (with_reducible refine Kd.C_drew ?_))); (case side2 => exact (Kd.R_reads' HO403.out).2.1); (case side3 => repeat (first | exact (Kd.R_reads' HO389.out).2.2 | (with_reducible refine Kd.C_alloc ?_ _) | (with_reducible refine Kd.C_drewN ?_ _) | (with_reducible refine Kd.C_drew ?_))); (case side4 => exact (Kd.R_reads' HO389.out).2.1); rintro e w' ⟨rfl, ⟨nd, rfl⟩⟩; refine ⟨_, rfl, ?_⟩) | ((with_reducible refine gate_callee (f := 41) rfl ?_); refine goesL_ (some 44) rfl rfl Try.func41 (by kernel_rfl) rfl #[.slice Ao33 t397.length co33, .int .i64 1] rfl (by (try simp only [List.map_toArray, List.map_cons, List.map_nil]); first | done | (rw [show t397.length = t392.length from (Kd.R_reads' HO394.out).1.symm] <;> rfl) | rfl | (simp only [List.length_drop, List.length_take]; rfl)) ?_; (with_reducible refine (laws_heldIntS.calls k _ _ t397 1 t405 _ ?side1 ?side2 A21.out).mono ?_); (case side1 => repeat (first | exact (Kd.R_reads' HO394.out).2.2 | (with_reducible refine Kd.C_alloc ?_ _) | (with_reducible refine Kd.C_drewN ?_ _) | (with_reducible refine Kd.C_drew ?_))); (case side2 => rw [show t397.length = t392.length from (Kd.R_reads' HO394.out).1.symm]; exact (Kd.R_reads' HO394.out).2.1); rintro e w' ⟨rfl, ⟨nd, rfl⟩⟩; refine ⟨_, rfl, ?_⟩))
                go_ret
                exact ⟨by first | rfl | (simp [errW_none, errW_some] <;> rfl) | (simp [*, errW_none, errW_some] <;> rfl), by repeat (first | (with_reducible first | exact HB.out | apply below_alloc | apply pw_below_drewN | apply below_drew1 | refine below_set ?_ GE383.out) | exact HB.out)⟩
              · rw [if_neg c23] at H
                have c23b0 : (t405 == t396) = false := beq_eq_false_iff_ne.mpr c23
                have c23b1 : (t405 != t396) = true := bne_iff_ne.mpr c23
                exact absurd ((Option.some.inj H).trans HT.out) (by decide)
          · replace c20 := Bool.eq_false_iff.mpr c20
            subst c20
            have H1 : (some false) = some r := by rw [if_neg (show ¬ (false = true) by decide)] at H; exact H
            clear H
            have H := H1
            clear H1
            exact absurd ((Option.some.inj H).trans HT.out) (by decide)
        · rw [if_neg c16] at H
          have c16b0 : (t398 == t396) = false := beq_eq_false_iff_ne.mpr c16
          have c16b1 : (t398 != t396) = true := bne_iff_ne.mpr c16
          exact absurd ((Option.some.inj H).trans HT.out) (by decide)
    · replace c12 := Bool.eq_false_iff.mpr c12
      subst c12
      have H1 : (some false) = some r := by rw [if_neg (show ¬ (false = true) by decide)] at H; exact H
      clear H
      have H := H1
      clear H1
      exact absurd ((Option.some.inj H).trans HT.out) (by decide)

end Go.Proofs.Ytfincfnklcllnaa.G
