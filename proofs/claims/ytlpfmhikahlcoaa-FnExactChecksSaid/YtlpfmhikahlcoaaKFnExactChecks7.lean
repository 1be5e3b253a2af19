-- texts of this session, merged by a program of it (wip/gen/pack.py)
import Derived.Test.YtlpfmhikahlcoaaKFnExactChecks1
import Derived.Test.YtlpfmhikahlcoaaKFnExactChecks2
import Derived.Test.YtlpfmhikahlcoaaKFnExactChecks4
import Derived.Test.YtlpfmhikahlcoaaKFnExactChecks5
import Derived.Test.YtlpfmhikahlcoaaKFnExactChecks6
import Derived.Test.YtlpfmhikahlcoaaKFnExactChecks3
import Derived.Laws.BitsLemmas
namespace Go.Proofs.Ytlpfmhikahlcoaa.G
open Go.Proofs.Ytlpfmhikahlcoaa.Sh Go.RowKit Go.Proofs.YtlpfmhikahlcoaaW.PrintWords Go.Proofs.YtlpfmhikahlcoaaW.PrintLast Go.Proofs.YtlpfmhikahlcoaaW.PrintMore
attribute [local go_sem] max2_int min2_int max_two min_two max_three min_three max_four min_four   -- for this text's walks alone
set_option linter.unusedVariables false
set_option linter.unusedSimpArgs false
def spec_Checks.f (k : Nat) (l0 : List Bool) (a1_0 : Int) (a1_1 : ByteArray) (a2 : Int) (l3 : List (S108)) : Option (Bool) := (spec_l08Ok.f k l0 a1_0 a1_1).bind fun t102 => (if t102 = true then ((spec_l01In.f a2 0 1).bind fun t103 => (if t103 = true then (if (l3.length : Int) ≤ 5000 then ((spec_l10Checks.f k l0 a1_0 a1_1 a2 l3 (([] : List Int))).bind fun t107 => (some t107)) else (some false)) else (some false))) else (some false))
set_option maxHeartbeats 80000000 in
set_option maxRecDepth 100000 in
theorem spec_Checks.calls (k : Nat) (A0 : Option Addr) (c0 : Nat) (l0 : List Bool) (a1_0 : Int) (a1_1 : ByteArray) (a2 : Int) (A3 : Option Addr) (c3 : Nat) (l3 : List (S108)) (r : Bool) (w : World) (hr0 : Kd.C Kd.bool w A0 l0.length l0) (hc0 : l0.length ≤ c0) (hr3 : Kd.C k108 w A3 l3.length l3) (hc3 : l3.length ≤ c3) (h : spec_Checks.f k l0 a1_0 a1_1 a2 l3 = some r) :
  Calls Try.prog 51 #[.slice A0 l0.length c0, .agg #[.int .i64 a1_0, .string a1_1], .int .i64 a2, .slice A3 l3.length c3] w fun e w' => e = .returned (.bool r) ∧ Below w.heap.size w w' := by
 have hu29 := Try.underlying29; have HR0 := Aside0.mk hr0; have HC0 := Aside0.mk hc0; clear hr0 hc0; have HR3 := Aside0.mk hr3; have HC3 := Aside0.mk hc3; clear hr3 hc3; have HB := Aside0.mk (Below.refl w.heap.size w)
 have H : ((spec_l08Ok.f k l0 a1_0 a1_1).bind fun t102 => (if t102 = true then ((spec_l01In.f a2 0 1).bind fun t103 => (if t103 = true then (if (l3.length : Int) ≤ 5000 then ((spec_l10Checks.f k l0 a1_0 a1_1 a2 l3 (([] : List Int))).bind fun t107 => (some t107)) else (some false)) else (some false))) else (some false))) = some r := h
 clear h
 replace H := Option.bind_eq_some_iff.mp H
 obtain ⟨t102, A50, H⟩ := H
 replace H : (if t102 = true then ((spec_l01In.f a2 0 1).bind fun t103 => (if t103 = true then (if (l3.length : Int) ≤ 5000 then ((spec_l10Checks.f k l0 a1_0 a1_1 a2 l3 (([] : List Int))).bind fun t107 => (some t107)) else (some false)) else (some false))) else (some false)) = some r := H
 have A5 := Aside0.mk A50; clear A50
 by_cases c6 : t102 = true
 ·subst c6
  have H1 : ((spec_l01In.f a2 0 1).bind fun t103 => (if t103 = true then (if (l3.length : Int) ≤ 5000 then ((spec_l10Checks.f k l0 a1_0 a1_1 a2 l3 (([] : List Int))).bind fun t107 => (some t107)) else (some false)) else (some false))) = some r := by rw [if_pos rfl] at H; exact H
  clear H; have H := H1; clear H1
  replace H := Option.bind_eq_some_iff.mp H
  obtain ⟨t103, A70, H⟩ := H
  replace H : (if t103 = true then (if (l3.length : Int) ≤ 5000 then ((spec_l10Checks.f k l0 a1_0 a1_1 a2 l3 (([] : List Int))).bind fun t107 => (some t107)) else (some false)) else (some false)) = some r := H
  have A7 := Aside0.mk A70; clear A70
  by_cases c8 : t103 = true
  ·subst c8
   have H1 : (if (l3.length : Int) ≤ 5000 then ((spec_l10Checks.f k l0 a1_0 a1_1 a2 l3 (([] : List Int))).bind fun t107 => (some t107)) else (some false)) = some r := by rw [if_pos rfl] at H; exact H
   clear H; have H := H1; clear H1
   by_cases c9 : (l3.length : Int) ≤ 5000
   ·rw [if_pos c9] at H
    have c9b0 : decide ((l3.length : Int) ≤ 5000) = true := decide_eq_true c9
    have c9b1 : decide (l3.length ≤ 5000) = true := decide_eq_true (by omega)
    clear c9
    obtain ⟨y104, hy104⟩ : ∃ y_ : List Int, y_ = (([] : List Int)) := ⟨_, rfl⟩
    replace H : ((spec_l10Checks.f k l0 a1_0 a1_1 a2 l3 y104).bind fun t107 => (some t107)) = some r := by first | (rw [hy104]; with_reducible exact H) | (have H2_ := (Option.bind_some _ _).symm.trans H; rw [hy104]; with_reducible exact H2_) | (have H2_ := (Option.bind_some _ _).symm.trans H; with_reducible exact H2_) | with_reducible exact H | (rw [hy104]; exact H) | exact H
    have Ny104 := Aside0.mk hy104; clear hy104
    replace H := Option.bind_eq_some_iff.mp H
    obtain ⟨t107, A100, H⟩ := H
    replace H : (some t107) = some r := H
    have A10 := Aside0.mk A100; clear A100
    obtain rfl := Option.some.inj H
    go_enter Try.func51, Try.ntmps51
    go_wp2_with (first | ((with_reducible refine gate_dst (N := 5) rfl ?_); (try (refine gate_guard (by rfl) ?_; dsimp only)); refine box_event ?hg (N := 5) ?hd (cs := #[.int .i64 a1_0, .string a1_1]) (t := 29) ?hr ?_; (case hd => rfl); (case hg => rfl); (case hr => first | (go_simp; done) | (go_simp; rfl)); intro gb101 hg w11 hbox hb; have n0_ := bs0 HB hb; have n1_ := Aside0.mk (hbox); have n2_ := bz0 hg HB; have n3_ := bz0 hg HB; clear HB; have HB := n0_; have BK101 := n1_; have GW101 := n2_; have GE101 := n3_; clear n0_ n1_ n2_ n3_; clear hb hbox hg; have hcz12_0 : w11.cell? ⟨gb101, 0, none⟩ = some (.int .i64 a1_0) := (blk_cell BK101.out 0).trans rfl; have hcz12_1 : w11.cell? ⟨gb101, 1, none⟩ = some (.string a1_1) := (blk_cell BK101.out 1).trans rfl; have hfz12_0 := blk_frozen BK101.out 0; have hfz12_1 := blk_frozen BK101.out 1) | ((with_reducible refine gate_callee (f := 57) rfl ?_); refine goesL_ (some 11) rfl rfl Try.func57 (by kernel_rfl) rfl #[.slice A0 l0.length c0, .agg #[.int .i64 a1_0, .string a1_1]] rfl (by (try simp only [List.map_toArray, List.map_cons, List.map_nil]); first | done | rfl | (simp only [List.length_drop, List.length_take]; rfl)) ?_; (with_reducible refine (spec_l08Ok.calls k _ _ l0 a1_0 a1_1 true _ ?side1 ?side2 A5.out).mono ?_); (case side1 => repeat (first | exact (Kd.C_below HR0.out HB.out) | (with_reducible refine Kd.C_alloc ?_ _) | (with_reducible refine Kd.C_drewN ?_ _) | (with_reducible refine Kd.C_drew ?_))); (case side2 => exact HC0.out); rintro e w13 ⟨rfl, hb⟩; refine ⟨_, rfl, ?_⟩; have n0_ := bb BK101 hb; have n1_ := bs1 HB hb GE101; clear BK101; clear HB; have BK101 := n0_; have HB := n1_; clear n0_ n1_; (try clear hb); (try clear hb2); (try clear hk); (try clear hi)) | (go_at_call 63; (try simp only [i64_w, i32_w]); (with_reducible refine (spec_l01In.calls a2 0 1 true _ A7.out).mono ?_); rintro e w' ⟨rfl, ⟨nd, rfl⟩⟩; have hcz14_0 : w13.cell? ⟨gb101, 0, none⟩ = some (.int .i64 a1_0) := (blk_cell BK101.out 0).trans rfl; have hcz14_1 : w13.cell? ⟨gb101, 1, none⟩ = some (.string a1_1) := (blk_cell BK101.out 1).trans rfl; have hfz14_0 := blk_frozen BK101.out 0; have hfz14_1 := blk_frozen BK101.out 1) | ((with_reducible refine gate_dst (N := 26) rfl ?_); (try (refine gate_guard (by rfl) ?_; dsimp only)); refine Kd.R_lit (Kd.int .i64) _ 3 ?hg (N := 26) ?hd (xs := ([] : List Int)) (inner := []) (ok := fun _ => True) (okp := fun _ => True) ?hr ?hp (fun _ hk => hk) trivial (Below.refl _ _) (Nat.le_refl _) (by simp) ?_; (case hd => rfl); (case hg => rfl); (case hr => first | (go_simp; done) | (go_simp; rfl)); (case hp => exact (Reps.none _ _)); intro v105 w15 ho16 hb hg_ hnew_; clear hg_ hnew_; (first | rw [← Ny104.out] at ho16 | (simp only [Int.reduceToNat] at ho16; rw [← Ny104.out] at ho16)); have n0_ := Aside0.mk (Kd.R_lower ho16 (below_size (by repeat (first | (with_reducible first | exact HB.out | apply below_alloc | apply pw_below_drewN | apply below_drew1 | refine below_set ?_ GE101.out) | exact HB.out)))); have n1_ := bb BK101 hb; have n2_ := bs1 HB hb GE101; clear BK101; clear HB; have HO106 := n0_; have BK101 := n1_; have HB := n2_; clear n0_ n1_ n2_; clear hb ho16; obtain ⟨Ao17, co17, eo17⟩ := Kd.R_slice HO106.out; subst eo17) | (go_at_call 94; (try simp only [i64_w, i32_w]); (with_reducible refine (spec_l10Checks.calls k _ _ l0 a1_0 a1_1 a2 _ _ l3 _ _ y104 t107 _ ?side1 ?side2 ?side3 ?side4 ?side5 ?side6 A10.out).mono ?_); (case side1 => repeat (first | exact (Kd.C_below HR0.out HB.out) | (with_reducible refine Kd.C_alloc ?_ _) | (with_reducible refine Kd.C_drewN ?_ _) | (with_reducible refine Kd.C_drew ?_))); (case side2 => exact HC0.out); (case side3 => repeat (first | exact (Kd.C_below HR3.out HB.out) | (with_reducible refine Kd.C_alloc ?_ _) | (with_reducible refine Kd.C_drewN ?_ _) | (with_reducible refine Kd.C_drew ?_))); (case side4 => exact HC3.out); (case side5 => repeat (first | exact (Kd.R_reads' HO106.out).2.2 | (with_reducible refine Kd.C_alloc ?_ _) | (with_reducible refine Kd.C_drewN ?_ _) | (with_reducible refine Kd.C_drew ?_))); (case side6 => exact (Kd.R_reads' HO106.out).2.1); rintro e w18 ⟨rfl, hb⟩; have n0_ := rb HO106 hb; have n1_ := bb BK101 hb; have n2_ := bs1 HB hb GE101; clear HO106; clear BK101; clear HB; have HO106 := n0_; have BK101 := n1_; have HB := n2_; clear n0_ n1_ n2_; (try clear hb); (try clear hb2); (try clear hk); (try clear hi)))
    go_ret
    exact ⟨by first | rfl | (simp [errW_none, errW_some] <;> rfl) | (simp [*, errW_none, errW_some] <;> rfl), by repeat (first | (with_reducible first | exact HB.out | apply below_alloc | apply pw_below_drewN | apply below_drew1 | refine below_set ?_ GE101.out) | exact HB.out)⟩
   ·rw [if_neg c9] at H
    have c9b0 : decide ((l3.length : Int) ≤ 5000) = false := decide_eq_false c9
    have c9b1 : decide (l3.length ≤ 5000) = false := decide_eq_false (by omega)
    clear c9
    obtain rfl := Option.some.inj H
    go_enter Try.func51, Try.ntmps51
    go_wp2_with (first | ((with_reducible refine gate_dst (N := 5) rfl ?_); (try (refine gate_guard (by rfl) ?_; dsimp only)); refine box_event ?hg (N := 5) ?hd (cs := #[.int .i64 a1_0, .string a1_1]) (t := 29) ?hr ?_; (case hd => rfl); (case hg => rfl); (case hr => first | (go_simp; done) | (go_simp; rfl)); intro gb101 hg w19 hbox hb; have n0_ := bs0 HB hb; have n1_ := Aside0.mk (hbox); have n2_ := bz0 hg HB; have n3_ := bz0 hg HB; clear HB; have HB := n0_; have BK101 := n1_; have GW101 := n2_; have GE101 := n3_; clear n0_ n1_ n2_ n3_; clear hb hbox hg; have hcz20_0 : w19.cell? ⟨gb101, 0, none⟩ = some (.int .i64 a1_0) := (blk_cell BK101.out 0).trans rfl; have hcz20_1 : w19.cell? ⟨gb101, 1, none⟩ = some (.string a1_1) := (blk_cell BK101.out 1).trans rfl; have hfz20_0 := blk_frozen BK101.out 0; have hfz20_1 := blk_frozen BK101.out 1) | ((with_reducible refine gate_callee (f := 57) rfl ?_); refine goesL_ (some 11) rfl rfl Try.func57 (by kernel_rfl) rfl #[.slice A0 l0.length c0, .agg #[.int .i64 a1_0, .string a1_1]] rfl (by (try simp only [List.map_toArray, List.map_cons, List.map_nil]); first | done | rfl | (simp only [List.length_drop, List.length_take]; rfl)) ?_; (with_reducible refine (spec_l08Ok.calls k _ _ l0 a1_0 a1_1 true _ ?side1 ?side2 A5.out).mono ?_); (case side1 => repeat (first | exact (Kd.C_below HR0.out HB.out) | (with_reducible refine Kd.C_alloc ?_ _) | (with_reducible refine Kd.C_drewN ?_ _) | (with_reducible refine Kd.C_drew ?_))); (case side2 => exact HC0.out); rintro e w21 ⟨rfl, hb⟩; refine ⟨_, rfl, ?_⟩; have n0_ := bb BK101 hb; have n1_ := bs1 HB hb GE101; clear BK101; clear HB; have BK101 := n0_; have HB := n1_; clear n0_ n1_; (try clear hb); (try clear hb2); (try clear hk); (try clear hi)) | (go_at_call 63; (try simp only [i64_w, i32_w]); (with_reducible refine (spec_l01In.calls a2 0 1 true _ A7.out).mono ?_); rintro e w' ⟨rfl, ⟨nd, rfl⟩⟩))
    go_ret
    exact ⟨by first | rfl | (simp [errW_none, errW_some] <;> rfl) | (simp [*, errW_none, errW_some] <;> rfl), by repeat (first | (with_reducible first | exact HB.out | apply below_alloc | apply pw_below_drewN | apply below_drew1 | refine below_set ?_ GE101.out) | exact HB.out)⟩
  ·replace c8 := Bool.eq_false_iff.mpr c8
   subst c8
   have H1 : (some false) = some r := by rw [if_neg (show ¬ (false = true) by decide)] at H; exact H
   clear H; have H := H1; clear H1
   obtain rfl := Option.some.inj H
   go_enter Try.func51, Try.ntmps51
   go_wp2_with (first | ((with_reducible refine gate_dst (N := 5) rfl ?_); (try (refine gate_guard (by rfl) ?_; dsimp only)); refine box_event ?hg (N := 5) ?hd (cs := #[.int .i64 a1_0, .string a1_1]) (t := 29) ?hr ?_; (case hd => rfl); (case hg => rfl); (case hr => first | (go_simp; done) | (go_simp; rfl)); intro gb101 hg w22 hbox hb; have n0_ := bs0 HB hb; have n1_ := Aside0.mk (hbox); have n2_ := bz0 hg HB; have n3_ := bz0 hg HB; clear HB; have HB := n0_; have BK101 := n1_; have GW101 := n2_; have GE101 := n3_; clear n0_ n1_ n2_ n3_; clear hb hbox hg; have hcz23_0 : w22.cell? ⟨gb101, 0, none⟩ = some (.int .i64 a1_0) := (blk_cell BK101.out 0).trans rfl; have hcz23_1 : w22.cell? ⟨gb101, 1, none⟩ = some (.string a1_1) := (blk_cell BK101.out 1).trans rfl; have hfz23_0 := blk_frozen BK101.out 0; have hfz23_1 := blk_frozen BK101.out 1) | ((with_reducible refine gate_callee (f := 57) rfl ?_); refine goesL_ (some 11) rfl rfl Try.func57 (by kernel_rfl) rfl #[.slice A0 l0.length c0, .agg #[.int .i64 a1_0, .string a1_1]] rfl (by (try simp only [List.map_toArray, List.map_cons, List.map_nil]); first | done | rfl | (simp only [List.length_drop, List.length_take]; rfl)) ?_; (with_reducible refine (spec_l08Ok.calls k _ _ l0 a1_0 a1_1 true _ ?side1 ?side2 A5.out).mono ?_); (case side1 => repeat (first | exact (Kd.C_below HR0.out HB.out) | (with_reducible refine Kd.C_alloc ?_ _) | (with_reducible refine Kd.C_drewN ?_ _) | (with_reducible refine Kd.C_drew ?_))); (case side2 => exact HC0.out); rintro e w24 ⟨rfl, hb⟩; refine ⟨_, rfl, ?_⟩; have n0_ := bb BK101 hb; have n1_ := bs1 HB hb GE101; clear BK101; clear HB; have BK101 := n0_; have HB := n1_; clear n0_ n1_; (try clear hb); (try clear hb2); (try clear hk); (try clear hi)) | (go_at_call 63; (try simp only [i64_w, i32_w]); (with_reducible refine (spec_l01In.calls a2 0 1 false _ A7.out).mono ?_); rintro e w' ⟨rfl, ⟨nd, rfl⟩⟩))
   go_ret
   exact ⟨by first | rfl | (simp [errW_none, errW_some] <;> rfl) | (simp [*, errW_none, errW_some] <;> rfl), by repeat (first | (with_reducible first | exact HB.out | apply below_alloc | apply pw_below_drewN | apply below_drew1 | refine below_set ?_ GE101.out) | exact HB.out)⟩
 ·replace c6 := Bool.eq_false_iff.mpr c6
  subst c6
  have H1 : (some false) = some r := by rw [if_neg (show ¬ (false = true) by decide)] at H; exact H
  clear H; have H := H1; clear H1
  obtain rfl := Option.some.inj H
  go_enter Try.func51, Try.ntmps51
  go_wp2_with (first | ((with_reducible refine gate_dst (N := 5) rfl ?_); (try (refine gate_guard (by rfl) ?_; dsimp only)); refine box_event ?hg (N := 5) ?hd (cs := #[.int .i64 a1_0, .string a1_1]) (t := 29) ?hr ?_; (case hd => rfl); (case hg => rfl); (case hr => first | (go_simp; done) | (go_simp; rfl)); intro gb101 hg w25 hbox hb; have n0_ := bs0 HB hb; have n1_ := Aside0.mk (hbox); have n2_ := bz0 hg HB; have n3_ := bz0 hg HB; clear HB; have HB := n0_; have BK101 := n1_; have GW101 := n2_; have GE101 := n3_; clear n0_ n1_ n2_ n3_; clear hb hbox hg; have hcz26_0 : w25.cell? ⟨gb101, 0, none⟩ = some (.int .i64 a1_0) := (blk_cell BK101.out 0).trans rfl; have hcz26_1 : w25.cell? ⟨gb101, 1, none⟩ = some (.string a1_1) := (blk_cell BK101.out 1).trans rfl; have hfz26_0 := blk_frozen BK101.out 0; have hfz26_1 := blk_frozen BK101.out 1) | ((with_reducible refine gate_callee (f := 57) rfl ?_); refine goesL_ (some 11) rfl rfl Try.func57 (by kernel_rfl) rfl #[.slice A0 l0.length c0, .agg #[.int .i64 a1_0, .string a1_1]] rfl (by (try simp only [List.map_toArray, List.map_cons, List.map_nil]); first | done | rfl | (simp only [List.length_drop, List.length_take]; rfl)) ?_; (with_reducible refine (spec_l08Ok.calls k _ _ l0 a1_0 a1_1 false _ ?side1 ?side2 A5.out).mono ?_); (case side1 => repeat (first | exact (Kd.C_below HR0.out HB.out) | (with_reducible refine Kd.C_alloc ?_ _) | (with_reducible refine Kd.C_drewN ?_ _) | (with_reducible refine Kd.C_drew ?_))); (case side2 => exact HC0.out); rintro e w27 ⟨rfl, hb⟩; refine ⟨_, rfl, ?_⟩; have n0_ := bb BK101 hb; have n1_ := bs1 HB hb GE101; clear BK101; clear HB; have BK101 := n0_; have HB := n1_; clear n0_ n1_; (try clear hb); (try clear hb2); (try clear hk); (try clear hi)))
  go_ret
  exact ⟨by first | rfl | (simp [errW_none, errW_some] <;> rfl) | (simp [*, errW_none, errW_some] <;> rfl), by repeat (first | (with_reducible first | exact HB.out | apply below_alloc | apply pw_below_drewN | apply below_drew1 | refine below_set ?_ GE101.out) | exact HB.out)⟩
end Go.Proofs.Ytlpfmhikahlcoaa.G
namespace Go.Proofs.Ytlpfmhikahlcoaa.G
open Go.Proofs.Ytlpfmhikahlcoaa.Sh Go.RowKit Go.Proofs.YtlpfmhikahlcoaaW.PrintWords Go.Proofs.YtlpfmhikahlcoaaW.PrintLast Go.Proofs.YtlpfmhikahlcoaaW.PrintMore
attribute [local go_sem] max2_int min2_int max_two min_two max_three min_three max_four min_four   -- for this text's walks alone
set_option linter.unusedVariables false
set_option linter.unusedSimpArgs false
def laws_FnExactChecks.f (k : Nat) (l0 : List Bool) (a1_0 : Int) (a1_1 : ByteArray) (a2 : Int) (l3 : List (S110)) : Option (Bool) := if (l0.length : Int) > 1048576 then (some true) else ((laws_szTable.f a1_0 a1_1 1048576).bind fun t102 => (if t102 < 0 then (some true) else ((laws_szPickS.f k l3 t102).bind fun t103 => (if t103 < 0 then (some true) else ((laws_toBoolS.f k l0).bind fun t104 => ((laws_toTable.f a1_0 a1_1).bind fun bt107 => ((laws_toPickS.f k l3).bind fun t109 => ((spec_Checks.f k t104 bt107.1 bt107.2 a2 t109).bind fun t112 => ((laws_toBoolS.f k l0).bind fun t113 => ((laws_toPickS.f k l3).bind fun t116 => ((laws_toTable.f a1_0 a1_1).bind fun bt119 => ((impl_Checks.f k t113 bt119.1 bt119.2 a2 t116).bind fun t121 => (if (t121 != t112) = true then (some false) else ((laws_toBoolS.f k l0).bind fun t122 => ((laws_eqBoolS.f k t113 t122).bind fun t125 => (if t125 = true then ((laws_toPickS.f k l3).bind fun t126 => ((laws_eqPickS.f k t116 t126).bind fun t129 => (if t129 = true then (some true) else (some false)))) else (some false)))))))))))))))))
def laws_FnExactChecks.T10 : Bool × List (List Nat × List Nat) := (true, [([], []), ([0], [0]), ([], []), ([2, 1], [2]), ([], []), ([], []), ([5, 3], [5]), ([1, 3, 4, 6, 6], [1, 3, 4, 6]), ([7, 7, 0, 1, 2, 3, 4, 5, 6, 7], [7])])
def laws_FnExactChecks.B10 : List Nat := [0, 1, 0, 7, 0, 0, 47, 127, 255]
theorem laws_FnExactChecks.tab10 : rtab .any (opsOf Try.f13 10) = laws_FnExactChecks.T10 := by kernel_rfl
theorem laws_FnExactChecks.bits10 : waitsOk laws_FnExactChecks.T10.2 laws_FnExactChecks.B10 = true := by kernel_rfl
set_option maxHeartbeats 80000000 in
set_option maxRecDepth 100000 in
theorem laws_FnExactChecks.calls (k : Nat) (A0 : Option Addr) (c0 : Nat) (l0 : List Bool) (a1_0 : Int) (a1_1 : ByteArray) (a2 : Int) (A3 : Option Addr) (c3 : Nat) (l3 : List (S110)) (r : Bool) (w : World) (hr0 : Kd.C Kd.bool w A0 l0.length l0) (hc0 : l0.length ≤ c0) (hr3 : Kd.C k110 w A3 l3.length l3) (hc3 : l3.length ≤ c3) (ht_ : r = true) (h : laws_FnExactChecks.f k l0 a1_0 a1_1 a2 l3 = some r) :
  Calls Try.prog 13 #[.slice A0 l0.length c0, .agg #[.int .i64 a1_0, .string a1_1], .int .i64 a2, .slice A3 l3.length c3] w fun e w' => e = .returned (.bool r) ∧ Below w.heap.size w w' := by
 have hu24 := Try.underlying24; have HT := Aside0.mk ht_; clear ht_; have HR0 := Aside0.mk hr0; have HC0 := Aside0.mk hc0; clear hr0 hc0; have HR3 := Aside0.mk hr3; have HC3 := Aside0.mk hc3; clear hr3 hc3; have HB := Aside0.mk (Below.refl w.heap.size w)
 have H : (if (l0.length : Int) > 1048576 then (some true) else ((laws_szTable.f a1_0 a1_1 1048576).bind fun t102 => (if t102 < 0 then (some true) else ((laws_szPickS.f k l3 t102).bind fun t103 => (if t103 < 0 then (some true) else ((laws_toBoolS.f k l0).bind fun t104 => ((laws_toTable.f a1_0 a1_1).bind fun bt107 => ((laws_toPickS.f k l3).bind fun t109 => ((spec_Checks.f k t104 bt107.1 bt107.2 a2 t109).bind fun t112 => ((laws_toBoolS.f k l0).bind fun t113 => ((laws_toPickS.f k l3).bind fun t116 => ((laws_toTable.f a1_0 a1_1).bind fun bt119 => ((impl_Checks.f k t113 bt119.1 bt119.2 a2 t116).bind fun t121 => (if (t121 != t112) = true then (some false) else ((laws_toBoolS.f k l0).bind fun t122 => ((laws_eqBoolS.f k t113 t122).bind fun t125 => (if t125 = true then ((laws_toPickS.f k l3).bind fun t126 => ((laws_eqPickS.f k t116 t126).bind fun t129 => (if t129 = true then (some true) else (some false)))) else (some false)))))))))))))))))) = some r := h
 clear h
 by_cases c5 : (l0.length : Int) > 1048576
 ·rw [if_pos c5] at H
  have c5b0 : decide (1048576 < (l0.length : Int)) = true := decide_eq_true c5
  have c5b1 : decide (1048576 < l0.length) = true := decide_eq_true (by omega)
  clear c5
  obtain rfl := Option.some.inj H
  go_enter Try.func13, Try.ntmps13
  go_wp2_with (first | ((with_reducible refine gate_dst (N := 5) rfl ?_); refine box_event ?hg (N := 5) ?hd (cs := #[.int .i64 a1_0, .string a1_1]) (t := 24) ?hr ?_; (case hd => rfl); (case hg => rfl); (case hr => first | (go_simp; done) | (go_simp; rfl)); intro gb101 hg w6 hbox hb; have n0_ := bs0 HB hb; have n1_ := Aside0.mk (hbox); have n2_ := bz0 hg HB; have n3_ := bz0 hg HB; clear HB; have HB := n0_; have BK101 := n1_; have GW101 := n2_; have GE101 := n3_; clear n0_ n1_ n2_ n3_; clear hb hbox hg))
  go_ret
  exact ⟨by first | rfl | (simp [errW_none, errW_some] <;> rfl) | (simp [*, errW_none, errW_some] <;> rfl), by repeat (first | (with_reducible first | exact HB.out | apply below_alloc | apply pw_below_drewN | apply below_drew1 | refine below_set ?_ GE101.out) | exact HB.out)⟩
 ·rw [if_neg c5] at H
  have c5b0 : decide (1048576 < (l0.length : Int)) = false := decide_eq_false c5
  have c5b1 : decide (1048576 < l0.length) = false := decide_eq_false (by omega)
  clear c5
  replace H := Option.bind_eq_some_iff.mp H
  obtain ⟨t102, A70, H⟩ := H
  replace H : (if t102 < 0 then (some true) else ((laws_szPickS.f k l3 t102).bind fun t103 => (if t103 < 0 then (some true) else ((laws_toBoolS.f k l0).bind fun t104 => ((laws_toTable.f a1_0 a1_1).bind fun bt107 => ((laws_toPickS.f k l3).bind fun t109 => ((spec_Checks.f k t104 bt107.1 bt107.2 a2 t109).bind fun t112 => ((laws_toBoolS.f k l0).bind fun t113 => ((laws_toPickS.f k l3).bind fun t116 => ((laws_toTable.f a1_0 a1_1).bind fun bt119 => ((impl_Checks.f k t113 bt119.1 bt119.2 a2 t116).bind fun t121 => (if (t121 != t112) = true then (some false) else ((laws_toBoolS.f k l0).bind fun t122 => ((laws_eqBoolS.f k t113 t122).bind fun t125 => (if t125 = true then ((laws_toPickS.f k l3).bind fun t126 => ((laws_eqPickS.f k t116 t126).bind fun t129 => (if t129 = true then (some true) else (some false)))) else (some false)))))))))))))))) = some r := H
  have A7 := Aside0.mk A70; clear A70
  by_cases c8 : t102 < 0
  ·rw [if_pos c8] at H
   have c8b0 : decide (t102 < 0) = true := decide_eq_true c8; clear c8
   obtain rfl := Option.some.inj H
   go_enter Try.func13, Try.ntmps13
   go_wp2_with (first | ((with_reducible refine gate_dst (N := 5) rfl ?_); refine box_event ?hg (N := 5) ?hd (cs := #[.int .i64 a1_0, .string a1_1]) (t := 24) ?hr ?_; (case hd => rfl); (case hg => rfl); (case hr => first | (go_simp; done) | (go_simp; rfl)); intro gb101 hg w9 hbox hb; have n0_ := bs0 HB hb; have n1_ := Aside0.mk (hbox); have n2_ := bz0 hg HB; have n3_ := bz0 hg HB; clear HB; have HB := n0_; have BK101 := n1_; have GW101 := n2_; have GE101 := n3_; clear n0_ n1_ n2_ n3_; clear hb hbox hg; have hcz10_0 : w9.cell? ⟨gb101, 0, none⟩ = some (.int .i64 a1_0) := (blk_cell BK101.out 0).trans rfl; have hcz10_1 : w9.cell? ⟨gb101, 1, none⟩ = some (.string a1_1) := (blk_cell BK101.out 1).trans rfl; have hfz10_0 := blk_frozen BK101.out 0; have hfz10_1 := blk_frozen BK101.out 1) | ((with_reducible refine gate_callee (f := 15) rfl ?_); refine goesL_ (some 19) rfl rfl Try.func15 (by kernel_rfl) rfl #[.agg #[.int .i64 a1_0, .string a1_1], .int .i64 1048576] rfl (by (try simp only [List.map_toArray, List.map_cons, List.map_nil]); first | done | rfl | (simp only [List.length_drop, List.length_take]; rfl)) ?_; (with_reducible refine (laws_szTable.calls a1_0 a1_1 1048576 t102 _ A7.out).mono ?_); rintro e w11 ⟨rfl, hb⟩; refine ⟨_, rfl, ?_⟩; have n0_ := bb BK101 hb; have n1_ := bs1 HB hb GE101; clear BK101; clear HB; have BK101 := n0_; have HB := n1_; clear n0_ n1_; (try clear hb); (try clear hb2); (try clear hk); (try clear hi)))
   go_ret
   exact ⟨by first | rfl | (simp [errW_none, errW_some] <;> rfl) | (simp [*, errW_none, errW_some] <;> rfl), by repeat (first | (with_reducible first | exact HB.out | apply below_alloc | apply pw_below_drewN | apply below_drew1 | refine below_set ?_ GE101.out) | exact HB.out)⟩
  ·rw [if_neg c8] at H
   have c8b0 : decide (t102 < 0) = false := decide_eq_false c8; clear c8
   replace H := Option.bind_eq_some_iff.mp H
   obtain ⟨t103, A120, H⟩ := H
   replace H : (if t103 < 0 then (some true) else ((laws_toBoolS.f k l0).bind fun t104 => ((laws_toTable.f a1_0 a1_1).bind fun bt107 => ((laws_toPickS.f k l3).bind fun t109 => ((spec_Checks.f k t104 bt107.1 bt107.2 a2 t109).bind fun t112 => ((laws_toBoolS.f k l0).bind fun t113 => ((laws_toPickS.f k l3).bind fun t116 => ((laws_toTable.f a1_0 a1_1).bind fun bt119 => ((impl_Checks.f k t113 bt119.1 bt119.2 a2 t116).bind fun t121 => (if (t121 != t112) = true then (some false) else ((laws_toBoolS.f k l0).bind fun t122 => ((laws_eqBoolS.f k t113 t122).bind fun t125 => (if t125 = true then ((laws_toPickS.f k l3).bind fun t126 => ((laws_eqPickS.f k t116 t126).bind fun t129 => (if t129 = true then (some true) else (some false)))) else (some false)))))))))))))) = some r := H
   have A12 := Aside0.mk A120; clear A120
   by_cases c13 : t103 < 0
   ·rw [if_pos c13] at H
    have c13b0 : decide (t103 < 0) = true := decide_eq_true c13; clear c13
    obtain rfl := Option.some.inj H
    go_enter Try.func13, Try.ntmps13
    go_wp2_with (first | ((with_reducible refine gate_dst (N := 5) rfl ?_); refine box_event ?hg (N := 5) ?hd (cs := #[.int .i64 a1_0, .string a1_1]) (t := 24) ?hr ?_; (case hd => rfl); (case hg => rfl); (case hr => first | (go_simp; done) | (go_simp; rfl)); intro gb101 hg w14 hbox hb; have n0_ := bs0 HB hb; have n1_ := Aside0.mk (hbox); have n2_ := bz0 hg HB; have n3_ := bz0 hg HB; clear HB; have HB := n0_; have BK101 := n1_; have GW101 := n2_; have GE101 := n3_; clear n0_ n1_ n2_ n3_; clear hb hbox hg; have hcz15_0 : w14.cell? ⟨gb101, 0, none⟩ = some (.int .i64 a1_0) := (blk_cell BK101.out 0).trans rfl; have hcz15_1 : w14.cell? ⟨gb101, 1, none⟩ = some (.string a1_1) := (blk_cell BK101.out 1).trans rfl; have hfz15_0 := blk_frozen BK101.out 0; have hfz15_1 := blk_frozen BK101.out 1) | ((with_reducible refine gate_callee (f := 15) rfl ?_); refine goesL_ (some 19) rfl rfl Try.func15 (by kernel_rfl) rfl #[.agg #[.int .i64 a1_0, .string a1_1], .int .i64 1048576] rfl (by (try simp only [List.map_toArray, List.map_cons, List.map_nil]); first | done | rfl | (simp only [List.length_drop, List.length_take]; rfl)) ?_; (with_reducible refine (laws_szTable.calls a1_0 a1_1 1048576 t102 _ A7.out).mono ?_); rintro e w16 ⟨rfl, hb⟩; refine ⟨_, rfl, ?_⟩; have n0_ := bb BK101 hb; have n1_ := bs1 HB hb GE101; clear BK101; clear HB; have BK101 := n0_; have HB := n1_; clear n0_ n1_; (try clear hb); (try clear hb2); (try clear hk); (try clear hi)) | ((with_reducible refine gate_callee (f := 50) rfl ?_); refine goesL_ (some 24) rfl rfl Try.func50 (by kernel_rfl) rfl #[.slice A3 l3.length c3, .int .i64 t102] rfl (by (try simp only [List.map_toArray, List.map_cons, List.map_nil]); first | done | rfl | (simp only [List.length_drop, List.length_take]; rfl)) ?_; (with_reducible refine (laws_szPickS.calls k _ _ l3 t102 t103 _ ?side1 ?side2 A12.out).mono ?_); (case side1 => repeat (first | exact (Kd.C_below HR3.out HB.out) | (with_reducible refine Kd.C_alloc ?_ _) | (with_reducible refine Kd.C_drewN ?_ _) | (with_reducible refine Kd.C_drew ?_))); (case side2 => exact HC3.out); rintro e w17 ⟨rfl, hb⟩; refine ⟨_, rfl, ?_⟩; have n0_ := bb BK101 hb; have n1_ := bs1 HB hb GE101; clear BK101; clear HB; have BK101 := n0_; have HB := n1_; clear n0_ n1_; (try clear hb); (try clear hb2); (try clear hk); (try clear hi)))
    go_ret
    exact ⟨by first | rfl | (simp [errW_none, errW_some] <;> rfl) | (simp [*, errW_none, errW_some] <;> rfl), by repeat (first | (with_reducible first | exact HB.out | apply below_alloc | apply pw_below_drewN | apply below_drew1 | refine below_set ?_ GE101.out) | exact HB.out)⟩
   ·rw [if_neg c13] at H
    have c13b0 : decide (t103 < 0) = false := decide_eq_false c13; clear c13
    replace H := Option.bind_eq_some_iff.mp H
    obtain ⟨t104, A180, H⟩ := H
    replace H : ((laws_toTable.f a1_0 a1_1).bind fun bt107 => ((laws_toPickS.f k l3).bind fun t109 => ((spec_Checks.f k t104 bt107.1 bt107.2 a2 t109).bind fun t112 => ((laws_toBoolS.f k l0).bind fun t113 => ((laws_toPickS.f k l3).bind fun t116 => ((laws_toTable.f a1_0 a1_1).bind fun bt119 => ((impl_Checks.f k t113 bt119.1 bt119.2 a2 t116).bind fun t121 => (if (t121 != t112) = true then (some false) else ((laws_toBoolS.f k l0).bind fun t122 => ((laws_eqBoolS.f k t113 t122).bind fun t125 => (if t125 = true then ((laws_toPickS.f k l3).bind fun t126 => ((laws_eqPickS.f k t116 t126).bind fun t129 => (if t129 = true then (some true) else (some false)))) else (some false)))))))))))) = some r := H
    have A18 := Aside0.mk A180; clear A180
    replace H := Option.bind_eq_some_iff.mp H
    obtain ⟨⟨t107, t108⟩, A190, H⟩ := H
    replace H : ((laws_toPickS.f k l3).bind fun t109 => ((spec_Checks.f k t104 t107 t108 a2 t109).bind fun t112 => ((laws_toBoolS.f k l0).bind fun t113 => ((laws_toPickS.f k l3).bind fun t116 => ((laws_toTable.f a1_0 a1_1).bind fun bt119 => ((impl_Checks.f k t113 bt119.1 bt119.2 a2 t116).bind fun t121 => (if (t121 != t112) = true then (some false) else ((laws_toBoolS.f k l0).bind fun t122 => ((laws_eqBoolS.f k t113 t122).bind fun t125 => (if t125 = true then ((laws_toPickS.f k l3).bind fun t126 => ((laws_eqPickS.f k t116 t126).bind fun t129 => (if t129 = true then (some true) else (some false)))) else (some false))))))))))) = some r := H
    have A19 := Aside0.mk A190; clear A190
    replace H := Option.bind_eq_some_iff.mp H
    obtain ⟨t109, A200, H⟩ := H
    replace H : ((spec_Checks.f k t104 t107 t108 a2 t109).bind fun t112 => ((laws_toBoolS.f k l0).bind fun t113 => ((laws_toPickS.f k l3).bind fun t116 => ((laws_toTable.f a1_0 a1_1).bind fun bt119 => ((impl_Checks.f k t113 bt119.1 bt119.2 a2 t116).bind fun t121 => (if (t121 != t112) = true then (some false) else ((laws_toBoolS.f k l0).bind fun t122 => ((laws_eqBoolS.f k t113 t122).bind fun t125 => (if t125 = true then ((laws_toPickS.f k l3).bind fun t126 => ((laws_eqPickS.f k t116 t126).bind fun t129 => (if t129 = true then (some true) else (some false)))) else (some false)))))))))) = some r := H
    have A20 := Aside0.mk A200; clear A200
    replace H := Option.bind_eq_some_iff.mp H
    obtain ⟨t112, A210, H⟩ := H
    replace H : ((laws_toBoolS.f k l0).bind fun t113 => ((laws_toPickS.f k l3).bind fun t116 => ((laws_toTable.f a1_0 a1_1).bind fun bt119 => ((impl_Checks.f k t113 bt119.1 bt119.2 a2 t116).bind fun t121 => (if (t121 != t112) = true then (some false) else ((laws_toBoolS.f k l0).bind fun t122 => ((laws_eqBoolS.f k t113 t122).bind fun t125 => (if t125 = true then ((laws_toPickS.f k l3).bind fun t126 => ((laws_eqPickS.f k t116 t126).bind fun t129 => (if t129 = true then (some true) else (some false)))) else (some false))))))))) = some r := H
    have A21 := Aside0.mk A210; clear A210
    replace H := Option.bind_eq_some_iff.mp H
    obtain ⟨t113, A220, H⟩ := H
    replace H : ((laws_toPickS.f k l3).bind fun t116 => ((laws_toTable.f a1_0 a1_1).bind fun bt119 => ((impl_Checks.f k t113 bt119.1 bt119.2 a2 t116).bind fun t121 => (if (t121 != t112) = true then (some false) else ((laws_toBoolS.f k l0).bind fun t122 => ((laws_eqBoolS.f k t113 t122).bind fun t125 => (if t125 = true then ((laws_toPickS.f k l3).bind fun t126 => ((laws_eqPickS.f k t116 t126).bind fun t129 => (if t129 = true then (some true) else (some false)))) else (some false)))))))) = some r := H
    have A22 := Aside0.mk A220; clear A220
    replace H := Option.bind_eq_some_iff.mp H
    obtain ⟨t116, A230, H⟩ := H
    replace H : ((laws_toTable.f a1_0 a1_1).bind fun bt119 => ((impl_Checks.f k t113 bt119.1 bt119.2 a2 t116).bind fun t121 => (if (t121 != t112) = true then (some false) else ((laws_toBoolS.f k l0).bind fun t122 => ((laws_eqBoolS.f k t113 t122).bind fun t125 => (if t125 = true then ((laws_toPickS.f k l3).bind fun t126 => ((laws_eqPickS.f k t116 t126).bind fun t129 => (if t129 = true then (some true) else (some false)))) else (some false))))))) = some r := H
    have A23 := Aside0.mk A230; clear A230
    replace H := Option.bind_eq_some_iff.mp H
    obtain ⟨⟨t119, t120⟩, A240, H⟩ := H
    replace H : ((impl_Checks.f k t113 t119 t120 a2 t116).bind fun t121 => (if (t121 != t112) = true then (some false) else ((laws_toBoolS.f k l0).bind fun t122 => ((laws_eqBoolS.f k t113 t122).bind fun t125 => (if t125 = true then ((laws_toPickS.f k l3).bind fun t126 => ((laws_eqPickS.f k t116 t126).bind fun t129 => (if t129 = true then (some true) else (some false)))) else (some false)))))) = some r := H
    have A24 := Aside0.mk A240; clear A240
    replace H := Option.bind_eq_some_iff.mp H
    obtain ⟨t121, A250, H⟩ := H
    replace H : (if (t121 != t112) = true then (some false) else ((laws_toBoolS.f k l0).bind fun t122 => ((laws_eqBoolS.f k t113 t122).bind fun t125 => (if t125 = true then ((laws_toPickS.f k l3).bind fun t126 => ((laws_eqPickS.f k t116 t126).bind fun t129 => (if t129 = true then (some true) else (some false)))) else (some false))))) = some r := H
    have A25 := Aside0.mk A250; clear A250
    by_cases c26 : (t121 != t112) = true
    ·rw [if_pos c26] at H
     have c26b0 : (t121 != t112) = true := c26
     (try (have c26b1 : decide (t121 = t112) = false := by simpa using c26))
     (try (have c26b2 : (t121 == t112) = false := by simpa using c26))
     (try (have c26b3 : ¬ (t121 = t112) := by simpa using c26))
     clear c26
     exact absurd ((Option.some.inj H).trans HT.out) (by decide)
    ·rw [if_neg c26] at H
     have c26b0 : (t121 != t112) = false := by simpa using c26
     (try (have c26b1 : decide (t121 = t112) = true := by simpa using c26))
     (try (have c26b2 : (t121 == t112) = true := by simpa using c26))
     clear c26
     replace H := Option.bind_eq_some_iff.mp H
     obtain ⟨t122, A270, H⟩ := H
     replace H : ((laws_eqBoolS.f k t113 t122).bind fun t125 => (if t125 = true then ((laws_toPickS.f k l3).bind fun t126 => ((laws_eqPickS.f k t116 t126).bind fun t129 => (if t129 = true then (some true) else (some false)))) else (some false))) = some r := H
     have A27 := Aside0.mk A270; clear A270
     replace H := Option.bind_eq_some_iff.mp H
     obtain ⟨t125, A280, H⟩ := H
     replace H : (if t125 = true then ((laws_toPickS.f k l3).bind fun t126 => ((laws_eqPickS.f k t116 t126).bind fun t129 => (if t129 = true then (some true) else (some false)))) else (some false)) = some r := H
     have A28 := Aside0.mk A280; clear A280
     by_cases c29 : t125 = true
     ·subst c29
      have H1 : ((laws_toPickS.f k l3).bind fun t126 => ((laws_eqPickS.f k t116 t126).bind fun t129 => (if t129 = true then (some true) else (some false)))) = some r := by rw [if_pos rfl] at H; exact H
      clear H; have H := H1; clear H1
      replace H := Option.bind_eq_some_iff.mp H
      obtain ⟨t126, A300, H⟩ := H
      replace H : ((laws_eqPickS.f k t116 t126).bind fun t129 => (if t129 = true then (some true) else (some false))) = some r := H
      have A30 := Aside0.mk A300; clear A300
      replace H := Option.bind_eq_some_iff.mp H
      obtain ⟨t129, A310, H⟩ := H
      replace H : (if t129 = true then (some true) else (some false)) = some r := H
      have A31 := Aside0.mk A310; clear A310
      by_cases c32 : t129 = true
      ·subst c32
       have H1 : (some true) = some r := by rw [if_pos rfl] at H; exact H
       clear H; have H := H1; clear H1
       obtain rfl := Option.some.inj H
       go_enter Try.func13, Try.ntmps13
       try go_wp2_with (first | ((with_reducible refine gate_dst (N := 5) rfl ?_); refine box_event ?hg (N := 5) ?hd (cs := #[.int .i64 a1_0, .string a1_1]) (t := 24) ?hr ?_; (case hd => rfl); (case hg => rfl); (case hr => first | (go_simp; done) | (go_simp; rfl)); intro gb101 hg w33 hbox hb; have n0_ := bs0 HB hb; have n1_ := Aside0.mk (hbox); have n2_ := bz0 hg HB; have n3_ := bz0 hg HB; clear HB; have HB := n0_; have BK101 := n1_; have GW101 := n2_; have GE101 := n3_; clear n0_ n1_ n2_ n3_; clear hb hbox hg; have hcz34_0 : w33.cell? ⟨gb101, 0, none⟩ = some (.int .i64 a1_0) := (blk_cell BK101.out 0).trans rfl; have hcz34_1 : w33.cell? ⟨gb101, 1, none⟩ = some (.string a1_1) := (blk_cell BK101.out 1).trans rfl; have hfz34_0 := blk_frozen BK101.out 0; have hfz34_1 := blk_frozen BK101.out 1) | ((with_reducible refine gate_callee (f := 15) rfl ?_); refine goesL_ (some 19) rfl rfl Try.func15 (by kernel_rfl) rfl #[.agg #[.int .i64 a1_0, .string a1_1], .int .i64 1048576] rfl (by (try simp only [List.map_toArray, List.map_cons, List.map_nil]); first | done | rfl | (simp only [List.length_drop, List.length_take]; rfl)) ?_; (with_reducible refine (laws_szTable.calls a1_0 a1_1 1048576 t102 _ A7.out).mono ?_); rintro e w35 ⟨rfl, hb⟩; refine ⟨_, rfl, ?_⟩; have n0_ := bb BK101 hb; have n1_ := bs1 HB hb GE101; clear BK101; clear HB; have BK101 := n0_; have HB := n1_; clear n0_ n1_; (try clear hb); (try clear hb2); (try clear hk); (try clear hi)) | ((with_reducible refine gate_callee (f := 50) rfl ?_); refine goesL_ (some 24) rfl rfl Try.func50 (by kernel_rfl) rfl #[.slice A3 l3.length c3, .int .i64 t102] rfl (by (try simp only [List.map_toArray, List.map_cons, List.map_nil]); first | done | rfl | (simp only [List.length_drop, List.length_take]; rfl)) ?_; (with_reducible refine (laws_szPickS.calls k _ _ l3 t102 t103 _ ?side1 ?side2 A12.out).mono ?_); (case side1 => repeat (first | exact (Kd.C_below HR3.out HB.out) | (with_reducible refine Kd.C_alloc ?_ _) | (with_reducible refine Kd.C_drewN ?_ _) | (with_reducible refine Kd.C_drew ?_))); (case side2 => exact HC3.out); rintro e w36 ⟨rfl, hb⟩; refine ⟨_, rfl, ?_⟩; have n0_ := bb BK101 hb; have n1_ := bs1 HB hb GE101; clear BK101; clear HB; have BK101 := n0_; have HB := n1_; clear n0_ n1_; (try clear hb); (try clear hb2); (try clear hk); (try clear hi)))
       have n0_ := Aside0.mk (blk_drew BK101.out); have n1_ := Aside0.mk (below_drew1 HB.out); clear BK101; clear HB; have BK101 := n0_; have HB := n1_; clear n0_ n1_
       refine start_ (n := 9) (S := fun w' => w'.cell? ⟨gb101, 0, none⟩ = some (.int .i64 a1_0) ∧ w'.cell? ⟨gb101, 1, none⟩ = some (.string a1_1)) (ds := []) #[false, false, false, false, false, false, false, false, false] (by kernel_rfl) rfl rfl ⟨(blk_cell BK101.out 0).trans rfl, (blk_cell BK101.out 1).trans rfl⟩ (fun hHeld => ?_); refine with_tabW laws_FnExactChecks.tab10 laws_FnExactChecks.bits10 (fun HT_ HW_ => ?_)
       generalize w36.drew = w37 at BK101 HB hHeld ⊢
       refine pure_ (i := 0) (N := some 27) (v := ?_) (a' := ?_) #[true, false, false, false, false, false, false, false, false] rfl rfl (any_of HT_.out (by kernel_rfl)) (fun _ _ _ h => h) (Or.inl ⟨by rfl, ?_⟩) ?_ ?_
       rotate_left
       ·intro w'
        go_simp
        with_reducible rfl
       rotate_left
       ·simp only [Act.put, List.setIfInBounds_toArray, List.set_cons_zero, List.set_cons_succ, i64_w, i32_w]
        rfl
       refine pure_ (i := 4) (N := some 31) (v := ?_) (a' := ?_) #[true, false, false, false, true, false, false, false, false] rfl rfl (any_of HT_.out (by kernel_rfl)) (fun _ _ _ h => h) (Or.inl ⟨by rfl, ?_⟩) ?_ ?_
       rotate_left
       ·intro w'
        go_simp
        with_reducible rfl
       rotate_left
       ·simp only [Act.put, List.setIfInBounds_toArray, List.set_cons_zero, List.set_cons_succ, i64_w, i32_w]
        rfl
       refine pure_ (i := 5) (N := some 32) (v := ?_) (a' := ?_) #[true, false, false, false, true, true, false, false, false] rfl rfl (any_of HT_.out (by kernel_rfl)) (fun _ _ _ h => h) (Or.inl ⟨by rfl, ?_⟩) ?_ ?_
       rotate_left
       ·intro w'
        go_simp
        with_reducible rfl
       rotate_left
       ·simp only [Act.put, List.setIfInBounds_toArray, List.set_cons_zero, List.set_cons_succ, i64_w, i32_w]
        rfl
       refine take_ (i := 2) (N := some 29) (v := ?_) (a' := ?_) #[true, false, true, false, true, true, false, false, false] rfl rfl (take_ofW HT_.out HW_.out (by kernel_rfl)) (fun _ _ _ h => h) (Or.inl ⟨by rfl, ?_⟩) hHeld ?_ ?_
       rotate_left
       ·rintro w' ⟨s0, s1⟩
        go_simp
        with_reducible rfl
       rotate_left
       ·simp only [Act.put, List.setIfInBounds_toArray, List.set_cons_zero, List.set_cons_succ, i64_w, i32_w]
        rfl
       refine one_ (i := 1) (N := some 28) #[true, true, true, false, true, true, false, false, false] rfl rfl (one_of HT_.out (by kernel_rfl)) (by decide) (fun K hK => ?_)
       refine goes_ Try.func17 (by kernel_rfl) rfl #[.slice A0 l0.length c0] (by rfl) rfl rfl (by (try simp only [List.map_toArray, List.map_cons, List.map_nil]); first | done | rfl | (simp only [List.length_drop, List.length_take]; rfl)) ?_
       with_reducible refine (laws_toBoolS.calls k _ _ l0 t104 _ ?side1 ?side2 A18.out).mono ?_
       (case side1 => repeat (first | exact (Kd.C_below HR0.out HB.out) | (with_reducible refine Kd.C_alloc ?_ _) | (with_reducible refine Kd.C_drewN ?_ _) | (with_reducible refine Kd.C_drew ?_)))
       (case side2 => exact HC0.out)
       rintro e w38 ⟨v105, rfl, ho0, hb⟩
       refine ⟨_, rfl, ?_⟩
       have n0_ := Aside0.mk (Kd.R_lower ho0 (below_size (by repeat (first | (with_reducible first | exact HB.out | apply below_alloc | apply pw_below_drewN | apply below_drew1 | refine below_set ?_ GE101.out) | exact HB.out))))
       have n1_ := bb BK101 hb; have n2_ := bs1 HB hb GE101; clear BK101; clear HB; have HO106 := n0_; have BK101 := n1_; have HB := n2_; clear n0_ n1_ n2_
       (try clear hb)
       (try clear hb2)
       (try clear hk)
       (try clear hi)
       (try clear ho0)
       refine hK.out _ _ ⟨(blk_cell BK101.out 0).trans rfl, (blk_cell BK101.out 1).trans rfl⟩ (fun hHeld => ?_)
       clear hK K
       refine norm_ (a' := ?_) ?_ ?_
       rotate_left
       ·show Act.put _ (some 28) _ = _
        simp only [Act.put, List.setIfInBounds_toArray, List.set_cons_zero, List.set_cons_succ, i64_w, i32_w]
        rfl
       refine one_ (i := 3) (N := some 30) #[true, true, true, true, true, true, false, false, false] rfl rfl (one_of HT_.out (by kernel_rfl)) (by decide) (fun K hK => ?_)
       refine goes_ Try.func18 (by kernel_rfl) rfl #[.agg #[.int .i64 a1_0, .string a1_1]] (by rfl) rfl rfl (by (try simp only [List.map_toArray, List.map_cons, List.map_nil]); first | done | rfl | (simp only [List.length_drop, List.length_take]; rfl)) ?_
       with_reducible refine (laws_toTable.calls a1_0 a1_1 t107 t108 _ A19.out).mono ?_
       rintro e w39 ⟨rfl, hb⟩
       refine ⟨_, rfl, ?_⟩
       have n0_ := rb HO106 hb; have n1_ := bb BK101 hb; have n2_ := bs1 HB hb GE101; clear HO106; clear BK101; clear HB; have HO106 := n0_; have BK101 := n1_; have HB := n2_; clear n0_ n1_ n2_
       (try clear hb)
       (try clear hb2)
       (try clear hk)
       (try clear hi)
       refine hK.out _ _ ⟨(blk_cell BK101.out 0).trans rfl, (blk_cell BK101.out 1).trans rfl⟩ (fun hHeld => ?_)
       clear hK K
       refine norm_ (a' := ?_) ?_ ?_
       rotate_left
       ·show Act.put _ (some 30) _ = _
        simp only [Act.put, List.setIfInBounds_toArray, List.set_cons_zero, List.set_cons_succ, i64_w, i32_w]
        rfl
       refine one_ (i := 6) (N := some 33) #[true, true, true, true, true, true, true, false, false] rfl rfl (one_of HT_.out (by kernel_rfl)) (by decide) (fun K hK => ?_)
       refine goes_ Try.func52 (by kernel_rfl) rfl #[.slice A3 l3.length c3] (by rfl) rfl rfl (by (try simp only [List.map_toArray, List.map_cons, List.map_nil]); first | done | rfl | (simp only [List.length_drop, List.length_take]; rfl)) ?_
       with_reducible refine (laws_toPickS.calls k _ _ l3 t109 _ ?side1 ?side2 A20.out).mono ?_
       (case side1 => repeat (first | exact (Kd.C_below HR3.out HB.out) | (with_reducible refine Kd.C_alloc ?_ _) | (with_reducible refine Kd.C_drewN ?_ _) | (with_reducible refine Kd.C_drew ?_)))
       (case side2 => exact HC3.out)
       rintro e w40 ⟨v110, rfl, ho0, hb⟩
       refine ⟨_, rfl, ?_⟩
       have n0_ := rb HO106 hb
       have n1_ := Aside0.mk (Kd.S_lower ho0 (below_size (by repeat (first | (with_reducible first | exact HB.out | apply below_alloc | apply pw_below_drewN | apply below_drew1 | refine below_set ?_ GE101.out) | exact HB.out))))
       have n2_ := bb BK101 hb; have n3_ := bs1 HB hb GE101; clear HO106; clear BK101; clear HB; have HO106 := n0_; have HO111 := n1_; have BK101 := n2_; have HB := n3_; clear n0_ n1_ n2_ n3_
       (try clear hb)
       (try clear hb2)
       (try clear hk)
       (try clear hi)
       (try clear ho0)
       obtain ⟨Ao41, co41, eo41⟩ := Kd.R_slice HO106.out
       (first | subst eo41 | (injection eo41 with f1_ f2_ f3_; have f4_ := f1_.symm; have f5_ := f3_.symm; clear f1_ f2_ f3_; subst f4_; subst f5_))
       obtain ⟨Ao42, co42, eo42⟩ := Kd.S_slice HO111.out
       (first | subst eo42 | (injection eo42 with f1_ f2_ f3_; have f4_ := f1_.symm; have f5_ := f3_.symm; clear f1_ f2_ f3_; subst f4_; subst f5_))
       refine hK.out _ _ ⟨(blk_cell BK101.out 0).trans rfl, (blk_cell BK101.out 1).trans rfl⟩ (fun hHeld => ?_)
       clear hK K
       refine norm_ (a' := ?_) ?_ ?_
       rotate_left
       ·show Act.put _ (some 33) _ = _
        simp only [Act.put, List.setIfInBounds_toArray, List.set_cons_zero, List.set_cons_succ, i64_w, i32_w]
        rfl
       refine one_ (i := 7) (N := some 34) #[true, true, true, true, true, true, true, true, false] rfl rfl (one_of HT_.out (by kernel_rfl)) (by decide) (fun K hK => ?_)
       refine goes_ Try.func51 (by kernel_rfl) rfl #[.slice Ao41 t104.length co41, .agg #[.int .i64 t107, .string t108], .int .i64 a2, .slice Ao42 t109.length co42] (by rfl) rfl rfl (by (try simp only [List.map_toArray, List.map_cons, List.map_nil]); first | done | rfl | (simp only [List.length_drop, List.length_take]; rfl)) ?_
       with_reducible refine (spec_Checks.calls k _ _ t104 t107 t108 a2 _ _ t109 t112 _ ?side1 ?side2 ?side3 ?side4 A21.out).mono ?_
       (case side1 => repeat (first | exact (Kd.R_reads' HO106.out).2.2 | (with_reducible refine Kd.C_alloc ?_ _) | (with_reducible refine Kd.C_drewN ?_ _) | (with_reducible refine Kd.C_drew ?_)))
       (case side2 => exact (Kd.R_reads' HO106.out).2.1)
       (case side3 => repeat (first | exact (Kd.S_reads' HO111.out).2.2 | (with_reducible refine Kd.C_alloc ?_ _) | (with_reducible refine Kd.C_drewN ?_ _) | (with_reducible refine Kd.C_drew ?_)))
       (case side4 => exact (Kd.S_reads' HO111.out).2.1)
       rintro e w43 ⟨rfl, hb⟩
       refine ⟨_, rfl, ?_⟩
       have n0_ := rb HO106 hb
       have n1_ := Aside0.mk (Kd.S_below (by (with_reducible repeat (first | apply Kd.S_alloc | apply Kd.S_drewN | apply Kd.S_drew)); exact HO111.out) hb)
       have n2_ := bb BK101 hb; have n3_ := bs1 HB hb GE101; clear HO106; clear HO111; clear BK101; clear HB; have HO106 := n0_; have HO111 := n1_; have BK101 := n2_; have HB := n3_; clear n0_ n1_ n2_ n3_
       (try clear hb)
       (try clear hb2)
       (try clear hk)
       (try clear hi)
       refine hK.out _ _ ⟨(blk_cell BK101.out 0).trans rfl, (blk_cell BK101.out 1).trans rfl⟩ (fun hHeld => ?_)
       clear hK K
       refine norm_ (a' := ?_) ?_ ?_
       rotate_left
       ·show Act.put _ (some 34) _ = _
        simp only [Act.put, List.setIfInBounds_toArray, List.set_cons_zero, List.set_cons_succ, i64_w, i32_w]
        rfl
       refine pure_ (i := 8) (N := some 10) (v := ?_) (a' := ?_) #[true, true, true, true, true, true, true, true, true] rfl rfl (any_of HT_.out (by kernel_rfl)) (fun _ _ _ h => h) (Or.inl ⟨by rfl, ?_⟩) ?_ ?_
       rotate_left
       ·intro w'
        go_simp
        with_reducible rfl
       rotate_left
       ·simp only [Act.put, List.setIfInBounds_toArray, List.set_cons_zero, List.set_cons_succ, i64_w, i32_w]
        rfl
       refine done_ (done_of HT_.out (by kernel_rfl)) ?_
       try go_wp2_with (first | ((with_reducible refine gate_callee (f := 17) rfl ?_); refine goesL_ (some 36) rfl rfl Try.func17 (by kernel_rfl) rfl #[.slice A0 l0.length c0] rfl (by (try simp only [List.map_toArray, List.map_cons, List.map_nil]); first | done | rfl | (simp only [List.length_drop, List.length_take]; rfl)) ?_; (with_reducible refine (laws_toBoolS.calls k _ _ l0 t113 _ ?side1 ?side2 A22.out).mono ?_); (case side1 => repeat (first | exact (Kd.C_below HR0.out HB.out) | (with_reducible refine Kd.C_alloc ?_ _) | (with_reducible refine Kd.C_drewN ?_ _) | (with_reducible refine Kd.C_drew ?_))); (case side2 => exact HC0.out); rintro e w44 ⟨v114, rfl, ho0, hb⟩; refine ⟨_, rfl, ?_⟩; have n0_ := re HO106 (Kd.R_base ho0) hb; have n1_ := Aside0.mk (Kd.S_below (by (with_reducible repeat (first | apply Kd.S_alloc | apply Kd.S_drewN | apply Kd.S_drew)); exact HO111.out) hb); have n2_ := Aside0.mk (Kd.R_lower (Kd.R_new' ho0 (Kd.R_lt (by (with_reducible repeat (first | apply Kd.R_alloc | apply Kd.R_drewN | apply Kd.R_drew)); exact HO106.out))) (below_size (by repeat (first | (with_reducible first | exact HB.out | apply below_alloc | apply pw_below_drewN | apply below_drew1 | refine below_set ?_ GE101.out) | exact HB.out)))); have n3_ := bb BK101 hb; have n4_ := bs1 HB hb GE101; clear HO106; clear HO111; clear BK101; clear HB; have HO106 := n0_; have HO111 := n1_; have HO115 := n2_; have BK101 := n3_; have HB := n4_; clear n0_ n1_ n2_ n3_ n4_; (try clear hb); (try clear hb2); (try clear hk); (try clear hi); (try clear ho0)) | ((with_reducible refine gate_callee (f := 52) rfl ?_); refine goesL_ (some 38) rfl rfl Try.func52 (by kernel_rfl) rfl #[.slice A3 l3.length c3] rfl (by (try simp only [List.map_toArray, List.map_cons, List.map_nil]); first | done | rfl | (simp only [List.length_drop, List.length_take]; rfl)) ?_; (with_reducible refine (laws_toPickS.calls k _ _ l3 t116 _ ?side1 ?side2 A23.out).mono ?_); (case side1 => repeat (first | exact (Kd.C_below HR3.out HB.out) | (with_reducible refine Kd.C_alloc ?_ _) | (with_reducible refine Kd.C_drewN ?_ _) | (with_reducible refine Kd.C_drew ?_))); (case side2 => exact HC3.out); rintro e w45 ⟨v117, rfl, ho0, hb⟩; refine ⟨_, rfl, ?_⟩; have n0_ := rb HO106 hb; have n1_ := Aside0.mk (Kd.S_elder' (by (with_reducible repeat (first | apply Kd.S_alloc | apply Kd.S_drewN | apply Kd.S_drew)); exact HO111.out) (Kd.S_base ho0) hb); have n2_ := rb HO115 hb; have n3_ := Aside0.mk (Kd.S_lower (Kd.S_new' ho0 (Kd.S_lt (by (with_reducible repeat (first | apply Kd.S_alloc | apply Kd.S_drewN | apply Kd.S_drew)); exact HO111.out))) (below_size (by repeat (first | (with_reducible first | exact HB.out | apply below_alloc | apply pw_below_drewN | apply below_drew1 | refine below_set ?_ GE101.out) | exact HB.out)))); have n4_ := bb BK101 hb; have n5_ := bs1 HB hb GE101; clear HO106; clear HO111; clear HO115; clear BK101; clear HB; have HO106 := n0_; have HO111 := n1_; have HO115 := n2_; have HO118 := n3_; have BK101 := n4_; have HB := n5_; clear n0_ n1_ n2_ n3_ n4_ n5_; (try clear hb); (try clear hb2); (try clear hk); (try clear hi); (try clear ho0); have hcz46_0 : w45.cell? ⟨gb101, 0, none⟩ = some (.int .i64 a1_0) := (blk_cell BK101.out 0).trans rfl; have hcz46_1 : w45.cell? ⟨gb101, 1, none⟩ = some (.string a1_1) := (blk_cell BK101.out 1).trans rfl; have hfz46_0 := blk_frozen BK101.out 0; have hfz46_1 := blk_frozen BK101.out 1) | ((with_reducible refine gate_callee (f := 18) rfl ?_); refine goesL_ (some 41) rfl rfl Try.func18 (by kernel_rfl) rfl #[.agg #[.int .i64 a1_0, .string a1_1]] rfl (by (try simp only [List.map_toArray, List.map_cons, List.map_nil]); first | done | rfl | (simp only [List.length_drop, List.length_take]; rfl)) ?_; (with_reducible refine (laws_toTable.calls a1_0 a1_1 t119 t120 _ A24.out).mono ?_); rintro e w47 ⟨rfl, hb⟩; refine ⟨_, rfl, ?_⟩; have n0_ := rb HO106 hb; have n1_ := Aside0.mk (Kd.S_below (by (with_reducible repeat (first | apply Kd.S_alloc | apply Kd.S_drewN | apply Kd.S_drew)); exact HO111.out) hb); have n2_ := rb HO115 hb; have n3_ := Aside0.mk (Kd.S_below (by (with_reducible repeat (first | apply Kd.S_alloc | apply Kd.S_drewN | apply Kd.S_drew)); exact HO118.out) hb); have n4_ := bb BK101 hb; have n5_ := bs1 HB hb GE101; clear HO106; clear HO111; clear HO115; clear HO118; clear BK101; clear HB; have HO106 := n0_; have HO111 := n1_; have HO115 := n2_; have HO118 := n3_; have BK101 := n4_; have HB := n5_; clear n0_ n1_ n2_ n3_ n4_ n5_; (try clear hb); (try clear hb2); (try clear hk); (try clear hi); obtain ⟨Ao48, co48, eo48⟩ := Kd.R_slice HO115.out; subst eo48; obtain ⟨Ao49, co49, eo49⟩ := Kd.S_slice HO118.out; subst eo49) | ((with_reducible refine gate_callee (f := 53) rfl ?_); refine goesL_ (some 44) rfl rfl Try.func53 (by kernel_rfl) rfl #[.slice Ao48 t113.length co48, .agg #[.int .i64 t119, .string t120], .int .i64 a2, .slice Ao49 t116.length co49] rfl (by (try simp only [List.map_toArray, List.map_cons, List.map_nil]); first | done | rfl | (simp only [List.length_drop, List.length_take]; rfl)) ?_; (with_reducible refine (impl_Checks.calls k _ _ t113 t119 t120 a2 _ _ t116 t121 _ ?side1 ?side2 ?side3 ?side4 A25.out).mono ?_); (case side1 => repeat (first | exact (Kd.R_reads' HO115.out).2.2 | (with_reducible refine Kd.C_alloc ?_ _) | (with_reducible refine Kd.C_drewN ?_ _) | (with_reducible refine Kd.C_drew ?_))); (case side2 => exact (Kd.R_reads' HO115.out).2.1); (case side3 => repeat (first | exact (Kd.S_reads' HO118.out).2.2 | (with_reducible refine Kd.C_alloc ?_ _) | (with_reducible refine Kd.C_drewN ?_ _) | (with_reducible refine Kd.C_drew ?_))); (case side4 => exact (Kd.S_reads' HO118.out).2.1); rintro e w50 ⟨rfl, hb⟩; refine ⟨_, rfl, ?_⟩; have n0_ := rb HO106 hb; have n1_ := Aside0.mk (Kd.S_below (by (with_reducible repeat (first | apply Kd.S_alloc | apply Kd.S_drewN | apply Kd.S_drew)); exact HO111.out) hb); have n2_ := rb HO115 hb; have n3_ := Aside0.mk (Kd.S_below (by (with_reducible repeat (first | apply Kd.S_alloc | apply Kd.S_drewN | apply Kd.S_drew)); exact HO118.out) hb); have n4_ := bb BK101 hb; have n5_ := bs1 HB hb GE101; clear HO106; clear HO111; clear HO115; clear HO118; clear BK101; clear HB; have HO106 := n0_; have HO111 := n1_; have HO115 := n2_; have HO118 := n3_; have BK101 := n4_; have HB := n5_; clear n0_ n1_ n2_ n3_ n4_ n5_; (try clear hb); (try clear hb2); (try clear hk); (try clear hi)) | ((with_reducible refine gate_callee (f := 17) rfl ?_); refine goesL_ (some 50) rfl rfl Try.func17 (by kernel_rfl) rfl #[.slice A0 l0.length c0] rfl (by (try simp only [List.map_toArray, List.map_cons, List.map_nil]); first | done | rfl | (simp only [List.length_drop, List.length_take]; rfl)) ?_; (with_reducible refine (laws_toBoolS.calls k _ _ l0 t122 _ ?side1 ?side2 A27.out).mono ?_); (case side1 => repeat (first | exact (Kd.C_below HR0.out HB.out) | (with_reducible refine Kd.C_alloc ?_ _) | (with_reducible refine Kd.C_drewN ?_ _) | (with_reducible refine Kd.C_drew ?_))); (case side2 => exact HC0.out); rintro e w51 ⟨v123, rfl, ho0, hb⟩; refine ⟨_, rfl, ?_⟩; have n0_ := re HO106 (Kd.R_base ho0) hb; have n1_ := Aside0.mk (Kd.S_below (by (with_reducible repeat (first | apply Kd.S_alloc | apply Kd.S_drewN | apply Kd.S_drew)); exact HO111.out) hb); have n2_ := re HO115 (Kd.R_base ho0) hb; have n3_ := Aside0.mk (Kd.S_below (by (with_reducible repeat (first | apply Kd.S_alloc | apply Kd.S_drewN | apply Kd.S_drew)); exact HO118.out) hb); have n4_ := Aside0.mk (Kd.R_lower (Kd.R_new' (Kd.R_new' ho0 (Kd.R_lt (by (with_reducible repeat (first | apply Kd.R_alloc | apply Kd.R_drewN | apply Kd.R_drew)); exact HO106.out))) (Kd.R_lt (by (with_reducible repeat (first | apply Kd.R_alloc | apply Kd.R_drewN | apply Kd.R_drew)); exact HO115.out))) (below_size (by repeat (first | (with_reducible first | exact HB.out | apply below_alloc | apply pw_below_drewN | apply below_drew1 | refine below_set ?_ GE101.out) | exact HB.out)))); have n5_ := bb BK101 hb; have n6_ := bs1 HB hb GE101; clear HO106; clear HO111; clear HO115; clear HO118; clear BK101; clear HB; have HO106 := n0_; have HO111 := n1_; have HO115 := n2_; have HO118 := n3_; have HO124 := n4_; have BK101 := n5_; have HB := n6_; clear n0_ n1_ n2_ n3_ n4_ n5_ n6_; (try clear hb); (try clear hb2); (try clear hk); (try clear hi); (try clear ho0); obtain ⟨Ao52, co52, eo52⟩ := Kd.R_slice HO124.out; subst eo52) | ((with_reducible refine gate_callee (f := 20) rfl ?_); refine goesL_ (some 51) rfl rfl Try.func20 (by kernel_rfl) rfl #[.slice Ao48 t113.length co48, .slice Ao52 t122.length co52] rfl (by (try simp only [List.map_toArray, List.map_cons, List.map_nil]); first | done | rfl | (simp only [List.length_drop, List.length_take]; rfl)) ?_; (with_reducible refine (laws_eqBoolS.calls k _ _ t113 _ _ t122 true _ ?side1 ?side2 ?side3 ?side4 A28.out).mono ?_); (case side1 => repeat (first | exact (Kd.R_reads' HO115.out).2.2 | (with_reducible refine Kd.C_alloc ?_ _) | (with_reducible refine Kd.C_drewN ?_ _) | (with_reducible refine Kd.C_drew ?_))); (case side2 => exact (Kd.R_reads' HO115.out).2.1); (case side3 => repeat (first | exact (Kd.R_reads' HO124.out).2.2 | (with_reducible refine Kd.C_alloc ?_ _) | (with_reducible refine Kd.C_drewN ?_ _) | (with_reducible refine Kd.C_drew ?_))); (case side4 => exact (Kd.R_reads' HO124.out).2.1); rintro e w' ⟨rfl, ⟨nd, rfl⟩⟩; refine ⟨_, rfl, ?_⟩) | ((with_reducible refine gate_callee (f := 52) rfl ?_); refine goesL_ (some 55) rfl rfl Try.func52 (by kernel_rfl) rfl #[.slice A3 l3.length c3] rfl (by (try simp only [List.map_toArray, List.map_cons, List.map_nil]); first | done | rfl | (simp only [List.length_drop, List.length_take]; rfl)) ?_; (with_reducible refine (laws_toPickS.calls k _ _ l3 t126 _ ?side1 ?side2 A30.out).mono ?_); (case side1 => repeat (first | exact (Kd.C_below HR3.out (by repeat (first | (with_reducible first | exact HB.out | apply below_alloc | apply pw_below_drewN | apply below_drew1 | refine below_set ?_ GE101.out) | exact HB.out))) | (with_reducible refine Kd.C_alloc ?_ _) | (with_reducible refine Kd.C_drewN ?_ _) | (with_reducible refine Kd.C_drew ?_))); (case side2 => exact HC3.out); rintro e w53 ⟨v127, rfl, ho0, hb⟩; refine ⟨_, rfl, ?_⟩; have n0_ := rb HO106 hb; have n1_ := Aside0.mk (Kd.S_elder' (by (with_reducible repeat (first | apply Kd.S_alloc | apply Kd.S_drewN | apply Kd.S_drew)); exact HO111.out) (Kd.S_base ho0) hb); have n2_ := rb HO115 hb; have n3_ := Aside0.mk (Kd.S_elder' (by (with_reducible repeat (first | apply Kd.S_alloc | apply Kd.S_drewN | apply Kd.S_drew)); exact HO118.out) (Kd.S_base ho0) hb); have n4_ := rb HO124 hb; have n5_ := Aside0.mk (Kd.S_lower (Kd.S_new' (Kd.S_new' ho0 (Kd.S_lt (by (with_reducible repeat (first | apply Kd.S_alloc | apply Kd.S_drewN | apply Kd.S_drew)); exact HO111.out))) (Kd.S_lt (by (with_reducible repeat (first | apply Kd.S_alloc | apply Kd.S_drewN | apply Kd.S_drew)); exact HO118.out))) (below_size (by repeat (first | (with_reducible first | exact HB.out | apply below_alloc | apply pw_below_drewN | apply below_drew1 | refine below_set ?_ GE101.out) | exact HB.out)))); have n6_ := bb BK101 hb; have n7_ := bs1 HB hb GE101; clear HO106; clear HO111; clear HO115; clear HO118; clear HO124; clear BK101; clear HB; have HO106 := n0_; have HO111 := n1_; have HO115 := n2_; have HO118 := n3_; have HO124 := n4_; have HO128 := n5_; have BK101 := n6_; have HB := n7_; clear n0_ n1_ n2_ n3_ n4_ n5_ n6_ n7_; (try clear hb); (try clear hb2); (try clear hk); (try clear hi); (try clear ho0); obtain ⟨Ao54, co54, eo54⟩ := Kd.S_slice HO128.out; subst eo54) | ((with_reducible refine gate_callee (f := 47) rfl ?_); refine goesL_ (some 56) rfl rfl Try.func47 (by kernel_rfl) rfl #[.slice Ao49 t116.length co49, .slice Ao54 t126.length co54] rfl (by (try simp only [List.map_toArray, List.map_cons, List.map_nil]); first | done | rfl | (simp only [List.length_drop, List.length_take]; rfl)) ?_; (with_reducible refine (laws_eqPickS.calls k _ _ t116 _ _ t126 true _ ?side1 ?side2 ?side3 ?side4 A31.out).mono ?_); (case side1 => repeat (first | exact (Kd.S_reads' HO118.out).2.2 | (with_reducible refine Kd.C_alloc ?_ _) | (with_reducible refine Kd.C_drewN ?_ _) | (with_reducible refine Kd.C_drew ?_))); (case side2 => exact (Kd.S_reads' HO118.out).2.1); (case side3 => repeat (first | exact (Kd.S_reads' HO128.out).2.2 | (with_reducible refine Kd.C_alloc ?_ _) | (with_reducible refine Kd.C_drewN ?_ _) | (with_reducible refine Kd.C_drew ?_))); (case side4 => exact (Kd.S_reads' HO128.out).2.1); rintro e w55 ⟨rfl, hb⟩; refine ⟨_, rfl, ?_⟩; have n0_ := rb HO106 hb; have n1_ := Aside0.mk (Kd.S_below (by (with_reducible repeat (first | apply Kd.S_alloc | apply Kd.S_drewN | apply Kd.S_drew)); exact HO111.out) hb); have n2_ := rb HO115 hb; have n3_ := Aside0.mk (Kd.S_below (by (with_reducible repeat (first | apply Kd.S_alloc | apply Kd.S_drewN | apply Kd.S_drew)); exact HO118.out) hb); have n4_ := rb HO124 hb; have n5_ := Aside0.mk (Kd.S_below (by (with_reducible repeat (first | apply Kd.S_alloc | apply Kd.S_drewN | apply Kd.S_drew)); exact HO128.out) hb); have n6_ := bb BK101 hb; have n7_ := bs1 HB hb GE101; clear HO106; clear HO111; clear HO115; clear HO118; clear HO124; clear HO128; clear BK101; clear HB; have HO106 := n0_; have HO111 := n1_; have HO115 := n2_; have HO118 := n3_; have HO124 := n4_; have HO128 := n5_; have BK101 := n6_; have HB := n7_; clear n0_ n1_ n2_ n3_ n4_ n5_ n6_ n7_; (try clear hb); (try clear hb2); (try clear hk); (try clear hi)))
       go_ret
       exact ⟨by first | rfl | (simp [errW_none, errW_some] <;> rfl) | (simp [*, errW_none, errW_some] <;> rfl), by repeat (first | (with_reducible first | exact HB.out | apply below_alloc | apply pw_below_drewN | apply below_drew1 | refine below_set ?_ GE101.out) | exact HB.out)⟩
      ·replace c32 := Bool.eq_false_iff.mpr c32
       subst c32
       have H1 : (some false) = some r := by rw [if_neg (show ¬ (false = true) by decide)] at H; exact H
       clear H; have H := H1; clear H1
       exact absurd ((Option.some.inj H).trans HT.out) (by decide)
     ·replace c29 := Bool.eq_false_iff.mpr c29
      subst c29
      have H1 : (some false) = some r := by rw [if_neg (show ¬ (false = true) by decide)] at H; exact H
      clear H; have H := H1; clear H1
      exact absurd ((Option.some.inj H).trans HT.out) (by decide)
end Go.Proofs.Ytlpfmhikahlcoaa.G
set_option linter.unusedSimpArgs false
set_option linter.unusedVariables false
namespace Go.Proofs.Ytlpfmhikahlcoaa.Pure
open Go.RowKit Go.Proofs.YtlpfmhikahlcoaaW.PrintWords Go.Proofs.YtlpfmhikahlcoaaW.PrintLast Go.Proofs.YtlpfmhikahlcoaaW.PrintMore
theorem rounds {R : Type} (L : Nat → Nat → Option R) (n : Nat) (r : R) (step : ∀ k i, i < n → L (k + 1) i = L k (i + 1)) (stop : ∀ k, L (k + 1) n = some r) : ∀ k, n < k → L k 0 = some r := by
  have h : ∀ d i k, i + d = n → d < k → L k i = some r := by
    intro d
    induction d with
    | zero =>
      intro i k hi hk
      obtain ⟨k, rfl⟩ : ∃ m, k = m + 1 := ⟨k - 1, by omega⟩
      obtain rfl : i = n := by omega
      exact stop k
    | succ d ih =>
      intro i k hi hk
      obtain ⟨k, rfl⟩ : ∃ m, k = m + 1 := ⟨k - 1, by omega⟩
      rw [step k i (by omega)]
      exact ih (i + 1) k (by omega) (by omega)
  exact fun k hk => h n 0 k (by omega) hk
theorem rounds_to {R : Type} (L : Nat → Nat → R) (n : Nat) (p : Nat → Bool) (S E : Nat → R) (step : ∀ k i, i < n → (∀ j, j < i → p j = true) → p i = true → L (k + 1) i = L k (i + 1))
    (exit : ∀ k i, i < n → (∀ j, j < i → p j = true) → p i = false → L (k + 1) i = E k) (stop : ∀ k, (∀ j, j < n → p j = true) → L (k + 1) n = S k) :
    ∀ k, n < k → ∃ j, k - n - 1 ≤ j ∧ j < k ∧ L k 0 = if (List.range n).all p then S j else E j := by
  have h : ∀ d i k, i + d = n → d < k → (∀ j, j < i → p j = true) → ∃ j, k - d - 1 ≤ j ∧ j < k ∧ L k i = if (List.range n).all p then S j else E j := by
    intro d
    induction d with
    | zero =>
      intro i k hi hk hp
      obtain ⟨k, rfl⟩ : ∃ m, k = m + 1 := ⟨k - 1, by omega⟩
      obtain rfl : i = n := by omega
      refine ⟨k, by omega, by omega, ?_⟩
      rw [stop k hp, if_pos (List.all_eq_true.2 fun x hx => hp x (by simpa using hx))]
    | succ d ih =>
      intro i k hi hk hp
      obtain ⟨k, rfl⟩ : ∃ m, k = m + 1 := ⟨k - 1, by omega⟩
      cases hpi : p i with
      | true =>
        obtain ⟨j, h1, h2, h3⟩ := ih (i + 1) k (by omega) (by omega) (fun j hj => by
          rcases Nat.eq_or_lt_of_le (Nat.lt_succ_iff.1 hj) with e | e
          · exact e ▸ hpi
          · exact hp j e)
        exact ⟨j, by omega, by omega, (step k i (by omega) hp hpi).trans h3⟩
      | false =>
        refine ⟨k, by omega, by omega, ?_⟩
        rw [exit k i (by omega) hp hpi, if_neg (fun ha => by have := List.all_eq_true.1 ha i (by simp; omega); rw [hpi] at this; cases this)]
  exact fun k hk => h n 0 k (by omega) hk (fun j hj => absurd hj (by omega))
theorem rounds_pre {R : Type} (L : Nat → Nat → Option R) (n : Nat) (p : Nat → Bool) (r bad : R) (step : ∀ k i, i < n → (∀ j, j < i → p j = true) → p i = true → L (k + 1) i = L k (i + 1))
    (exit : ∀ k i, i < n → (∀ j, j < i → p j = true) → p i = false → L (k + 1) i = some bad) (stop : ∀ k, (∀ j, j < n → p j = true) → L (k + 1) n = some r) :
    ∀ k, n < k → L k 0 = some (if (List.range n).all p then r else bad) := by
  intro k hk
  obtain ⟨j, _, _, h⟩ := rounds_to L n p (fun _ => some r) (fun _ => some bad) step exit stop k hk
  rw [h]
  split <;> rfl
theorem w64 {n : Int} (h0 : -9223372036854775808 ≤ n) (h1 : n ≤ 9223372036854775807) : wrap64 n = n := by
  unfold wrap64
  omega
theorem w64s (i : Nat) (h : i < 4611686018427387904) : wrap64 ((i : Int) + 1) = ((i + 1 : Nat) : Int) := by
  rw [w64 (by omega) (by omega)]
  omega
theorem wfi {a : Int} (h : (Lit.int .i64 a).wf = true) : -9223372036854775808 ≤ a ∧ a ≤ 9223372036854775807 := by
  have hmin : IntKind.i64.min = -9223372036854775808 := rfl
  have hmax : IntKind.i64.max = 9223372036854775807 := rfl
  simp only [Lit.wf, Bool.and_eq_true, decide_eq_true_eq] at h
  omega
theorem u64_of {a : Int} (h0 : 0 ≤ a) (h1 : a ≤ 18446744073709551615) : IntKind.u64.wrap a = a := by
  have h : IntKind.u64.wrap a = a % 18446744073709551616 := by
    simp [IntKind.wrap, IntKind.bits, IntKind.signed]
  rw [h]
  omega
theorem rd_nat (xs : List Int) (i : Nat) : rd xs (i : Int) = xs.getD i 0 := by unfold rd; simp
theorem rdOf_nat {α : Type} (d : α) (xs : List α) (i : Nat) : rdOf d xs (i : Int) = xs.getD i d := by unfold rdOf; simp
theorem getD_lt {α : Type} (xs : List α) (i : Nat) (d : α) (h : i < xs.length) : xs.getD i d = xs[i] := by
  rw [List.getD_eq_getElem?_getD, List.getElem?_eq_getElem h]
  rfl
theorem take_succ_getD {α : Type} (xs : List α) (i : Nat) (d : α) (h : i < xs.length) : xs.take (i + 1) = xs.take i ++ [xs.getD i d] := by
  rw [List.take_succ_eq_append_getElem h, getD_lt xs i d h]
theorem set_front {α : Type} (p l : List α) (i : Nat) (v : α) (hl : p.length = l.length) (h : i < l.length) (hv : p[i]? = some v) : (p.take i ++ l.drop i).set i v = p.take (i + 1) ++ l.drop (i + 1) := by
  apply List.ext_getElem?
  intro j
  by_cases hj : j = i
  · subst hj
    rw [List.getElem?_set_self (by simp; omega), List.getElem?_append_left (by simp; omega), List.getElem?_take_of_lt (by omega), hv]
  · rw [List.getElem?_set_ne (by omega)]
    rcases Nat.lt_or_ge j i with h1 | h1
    · rw [List.getElem?_append_left (by simp; omega), List.getElem?_append_left (by simp; omega), List.getElem?_take_of_lt (by omega), List.getElem?_take_of_lt (by omega)]
    · rw [List.getElem?_append_right (by simp; omega), List.getElem?_append_right (by simp; omega)]
      simp only [List.length_take, List.getElem?_drop]
      congr 1
      omega
theorem bt_nat (s : ByteArray) (i : Nat) (h : i < s.size) : bt s (i : Int) = (s[i].toNat : Int) := by
  unfold bt
  simp [h]
theorem toList_data (s : ByteArray) : s.toList = s.data.toList := ByteArray.toList_eq s
end Go.Proofs.Ytlpfmhikahlcoaa.Pure
set_option linter.unusedSimpArgs false
set_option linter.unusedVariables false
namespace Go.Proofs.Ytlpfmhikahlcoaa.Pure
open Go.RowKit Go.Proofs.Ytlpfmhikahlcoaa.G Go.Proofs.YtlpfmhikahlcoaaW.PrintWords Go.Proofs.YtlpfmhikahlcoaaW.PrintLast Go.Proofs.YtlpfmhikahlcoaaW.PrintMore
theorem eqBoolS_self (l : List Bool) (hl : l.length ≤ 1099511627776) : ∀ k, l.length < k → laws_eqBoolS.f k l l = some true := by
  intro k hk
  unfold laws_eqBoolS.f
  rw [if_pos rfl]
  refine rounds (fun k i => laws_eqBoolS.l0 k l l (i : Int)) l.length true ?_ ?_ k hk
  · intro k i hi
    simp only [laws_eqBoolS.l0]
    rw [if_pos (by omega), if_pos (by omega), if_pos (by omega), if_neg (by simp), w64s i (by omega)]
  · intro k
    simp only [laws_eqBoolS.l0]
    rw [if_neg (by omega)]
theorem eqIntS_self (l : List Int) (hl : l.length ≤ 1099511627776) : ∀ k, l.length < k → laws_eqIntS.f k l l = some true := by
  intro k hk
  unfold laws_eqIntS.f
  rw [if_pos rfl]
  refine rounds (fun k i => laws_eqIntS.l0 k l l (i : Int)) l.length true ?_ ?_ k hk
  · intro k i hi
    simp only [laws_eqIntS.l0]
    rw [if_pos (by omega), if_pos (by omega), if_pos (by omega), if_pos (by simp), w64s i (by omega)]
  · intro k
    simp only [laws_eqIntS.l0]
    rw [if_neg (by omega)]
theorem toBoolS_eq (l : List Bool) (hl : l.length ≤ 1099511627776) : ∀ k, l.length < k → laws_toBoolS.f k l = some l := by
  intro k hk
  unfold laws_toBoolS.f
  rw [if_pos (by omega), if_pos (by omega), Int.toNat_natCast]
  have h := rounds (fun k i => laws_toBoolS.l0 k l (l.take i ++ (List.replicate l.length false).drop i) (i : Int)) l.length l ?_ ?_ k hk
  · simpa using h
  · intro k i hi
    simp only [laws_toBoolS.l0]
    rw [if_pos (by omega), if_pos (by omega), if_pos (by simp; omega), rdOf_nat, w64s i (by omega), Int.toNat_natCast, getD_lt l i false hi, set_front l (List.replicate l.length false) i l[i] (by simp) (by simpa using hi) (List.getElem?_eq_getElem hi)]
  · intro k
    simp only [laws_toBoolS.l0]
    rw [if_neg (by omega)]
    simp
theorem toIntS_eq (l : List Int) (hl : l.length ≤ 1099511627776) : ∀ k, l.length < k → laws_toIntS.f k l = some l := by
  intro k hk
  unfold laws_toIntS.f
  rw [if_pos (by omega), if_pos (by omega), Int.toNat_natCast]
  have h := rounds (fun k i => laws_toIntS.l0 k l (l.take i ++ (List.replicate l.length 0).drop i) (i : Int)) l.length l ?_ ?_ k hk
  · simpa using h
  · intro k i hi
    simp only [laws_toIntS.l0]
    rw [if_pos (by omega), if_pos (by omega), if_pos (by simp; omega), rd_nat, w64s i (by omega), Int.toNat_natCast, getD_lt l i 0 hi, set_front l (List.replicate l.length 0) i l[i] (by simp) (by simpa using hi) (List.getElem?_eq_getElem hi)]
  · intro k
    simp only [laws_toIntS.l0]
    rw [if_neg (by omega)]
    simp
theorem szTable_eq (N : Int) (s : ByteArray) (hs : s.size ≤ maxLen) : laws_szTable.f N s 1048576 = some (if (s.size : Int) > 1048576 then -1 else 1048576 - (s.size : Int)) := by
  unfold laws_szTable.f
  unfold maxLen at hs
  rw [w64 (by omega) (by omega)]
  split <;> split <;> first | rfl | omega
end Go.Proofs.Ytlpfmhikahlcoaa.Pure
set_option linter.unusedSimpArgs false
set_option linter.unusedVariables false
namespace Go.Proofs.Ytlpfmhikahlcoaa.Pure
open Go.RowKit Go.Proofs.Ytlpfmhikahlcoaa.G Go.Proofs.YtlpfmhikahlcoaaW.PrintWords Go.Proofs.YtlpfmhikahlcoaaW.PrintLast Go.Proofs.YtlpfmhikahlcoaaW.PrintMore
theorem rounds_all {R : Type} (L : Nat → Nat → Option R) (n : Nat) (p : Nat → Bool) (r bad : R) (step : ∀ k i, i < n → p i = true → L (k + 1) i = L k (i + 1)) (exit : ∀ k i, i < n → p i = false → L (k + 1) i = some bad)
    (stop : ∀ k, L (k + 1) n = some r) : ∀ k, n < k → L k 0 = some (if (List.range n).all p then r else bad) :=
  rounds_pre L n p r bad (fun k i hi _ hp => step k i hi hp) (fun k i hi _ hp => exit k i hi hp) (fun k _ => stop k)
def sgn (b : Bool) : Int := if b then 49 else 48
def ones (l : List Bool) : ByteArray := ⟨(l.map fun b => if b then (49 : UInt8) else 48).toArray⟩
theorem ones_size (l : List Bool) : (ones l).size = l.length := by
  show (l.map fun b => if b then (49 : UInt8) else 48).toArray.size = _
  simp
theorem bt_ones (l : List Bool) (i : Nat) (h : i < l.length) : bt (ones l) (i : Int) = sgn (l.getD i false) := by
  have hs : i < (ones l).size := by rw [ones_size]; exact h
  rw [bt_nat _ i hs, getD_lt l i false h]
  have e : (ones l)[i] = if l[i] then (49 : UInt8) else 48 := by
    have h1 : (ones l).data.toList[i]? = some (ones l)[i] := by
      rw [List.getElem?_eq_getElem (by simpa using hs)]
      rfl
    have h2 : (ones l).data.toList[i]? = some (if l[i] then (49 : UInt8) else 48) := by simp [ones, h]
    exact Option.some.inj (h1.symm.trans h2)
  rw [e]
  unfold sgn
  cases l[i] <;> rfl
theorem data_inj {a b : ByteArray} (h : a.data.toList = b.data.toList) : a = b := by
  cases a; cases b
  simp only [ByteArray.mk.injEq]
  exact Array.toList_inj.1 h
theorem toList_inj {a b : ByteArray} : a.toList = b.toList ↔ a = b := by
  rw [toList_data, toList_data]
  exact ⟨data_inj, fun h => h ▸ rfl⟩
def tok (N : Int) (s : ByteArray) : Bool := decide (0 ≤ N ∧ N ≤ 12 ∧ (s.size : Int) = 2 ^ N.toNat) && (List.range s.size).all fun (i : Nat) => bt s (i : Int) == 48 || bt s (i : Int) == 49
theorem tok_form {N : Int} {s : ByteArray} (h : tok N s = true) : ∃ (n : Nat) (l : List Bool), N = (n : Int) ∧ n ≤ 12 ∧ l.length = 2 ^ n ∧ s = ones l := by
  unfold tok at h
  simp only [Bool.and_eq_true, decide_eq_true_eq] at h
  obtain ⟨⟨h0, h1, h2⟩, h3⟩ := h
  obtain ⟨n, rfl⟩ := Int.eq_ofNat_of_zero_le h0
  have h2' : s.size = 2 ^ n := by
    rw [Int.toNat_natCast] at h2
    exact_mod_cast h2
  refine ⟨n, (List.range s.size).map fun (i : Nat) => decide (bt s (i : Int) = 49), rfl, by omega, by simp [h2'], ?_⟩
  apply data_inj
  apply List.ext_getElem?
  intro i
  rcases Nat.lt_or_ge i s.size with hi | hi
  · have hb := List.all_eq_true.1 h3 i (by simpa using hi)
    have e : s.data.toList[i]? = some s[i] := by
      rw [List.getElem?_eq_getElem (by simpa using hi)]
      rfl
    rw [e]
    have hv := bt_nat s i hi
    simp only [ones, List.map_map, List.getElem?_map, List.getElem?_range hi, Option.map_some, Function.comp]
    congr 1
    simp only [Bool.or_eq_true, beq_iff_eq] at hb
    have hd : ∀ c : UInt8, ((c.toNat : Int) = 48 → c = 48) ∧ ((c.toNat : Int) = 49 → c = 49) := fun c => ⟨fun h => UInt8.toNat_inj.1 (by have : c.toNat = 48 := by omega
                                                                                                                                         rw [this]; rfl), fun h => UInt8.toNat_inj.1 (by have : c.toNat = 49 := by omega
                                                                                                                                                                                         rw [this]; rfl)⟩
    rcases hb with hb | hb
    · have hc := (hd s[i]).1 (hv ▸ hb)
      simp [hb, hc]
    · have hc := (hd s[i]).2 (hv ▸ hb)
      simp [hb, hc]
  · rw [List.getElem?_eq_none (by simpa using hi), List.getElem?_eq_none (by simp [ones]; exact hi)]
theorem tok_ones {n : Nat} {l : List Bool} (hn : n ≤ 12) (hl : l.length = 2 ^ n) : tok (n : Int) (ones l) = true := by
  unfold tok
  rw [Bool.and_eq_true]
  refine ⟨decide_eq_true ⟨by omega, by omega, ?_⟩, List.all_eq_true.2 fun i hi => ?_⟩
  · rw [ones_size, hl, Int.toNat_natCast]
    norm_cast
  · have hi' : i < l.length := by rw [ones_size] at hi; simpa using hi
    rw [bt_ones l i hi']
    unfold sgn
    cases l.getD i false <;> rfl
theorem pow12 {n : Nat} (hn : n ≤ 12) : 2 ^ n ≤ 4096 := Nat.pow_le_pow_right (by decide) hn
theorem pow62 {n : Nat} (hn : n ≤ 61) : (2 : Int) ^ n ≤ 2305843009213693952 := by
  have h : 2 ^ n ≤ 2 ^ 61 := Nat.pow_le_pow_right (by decide) hn
  have h2 : ((2 ^ n : Nat) : Int) ≤ ((2 ^ 61 : Nat) : Int) := by exact_mod_cast h
  have h3 : ((2 ^ n : Nat) : Int) = (2 : Int) ^ n := by norm_cast
  omega
theorem pow_pos_ (n : Nat) : (1 : Int) ≤ 2 ^ n := by
  have h : 1 ≤ 2 ^ n := Nat.one_le_two_pow
  have h2 : ((1 : Nat) : Int) ≤ ((2 ^ n : Nat) : Int) := by exact_mod_cast h
  have h3 : ((2 ^ n : Nat) : Int) = (2 : Int) ^ n := by norm_cast
  omega
theorem pow2_eq (n : Nat) (hn : n ≤ 60) : ∀ k, n < k → spec_l01Pow2.f k (n : Int) = some ((2 : Int) ^ n) := by
  intro k hk
  unfold spec_l01Pow2.f
  refine rounds (fun k i => spec_l01Pow2.l0 k (n : Int) ((2 : Int) ^ i) (i : Int)) n _ ?_ ?_ k hk
  · intro k i hi
    simp only [spec_l01Pow2.l0]
    have h1 := pow62 (n := i + 1) (by omega)
    have h2 := pow_pos_ i
    rw [if_pos (by omega), w64s i (by omega), show (2 : Int) * 2 ^ i = 2 ^ (i + 1) from by rw [Int.pow_succ]; omega, w64 (by have := pow_pos_ (i + 1); omega) (by omega)]
  · intro k
    simp only [spec_l01Pow2.l0]
    rw [if_neg (by omega)]
theorem spec_TableOk_eq (N : Int) (s : ByteArray) (hs : s.size ≤ 1099511627776) : ∀ k, s.size + 20 < k → spec_TableOk.f k N s = some (tok N s) := by
  intro k hk
  obtain ⟨k, rfl⟩ : ∃ m, k = m + 1 := ⟨k - 1, by omega⟩
  unfold spec_TableOk.f spec_l01In.f
  by_cases h0 : N ≥ 0
  · rw [if_pos h0]
    by_cases h1 : N ≤ 12
    · obtain ⟨n, rfl⟩ := Int.eq_ofNat_of_zero_le h0
      simp only [h1, decide_true, Option.bind_some, if_true]
      rw [pow2_eq n (by omega) (k + 1) (by omega)]
      simp only [Option.bind_some, spec_TableOk.j0]
      by_cases h2 : (s.size : Int) = 2 ^ n
      · rw [if_neg (by simp [h2])]
        have h := rounds_all (fun k i => spec_TableOk.l0 k (i : Int) (n : Int) s) s.size (fun i => bt s i == 48 || bt s i == 49) true false ?_ ?_ ?_ k (by omega)
        · refine h.trans ?_
          unfold tok
          rw [decide_eq_true (⟨h0, h1, by rw [Int.toNat_natCast]; exact h2⟩ : 0 ≤ (n : Int) ∧ (n : Int) ≤ 12 ∧ (s.size : Int) = 2 ^ (n : Int).toNat), Bool.true_and]
          congr 1
          split <;> simp_all
        · intro k i hi hp
          simp only [spec_TableOk.l0]
          simp only [Bool.or_eq_true, beq_iff_eq] at hp
          rw [if_pos (by omega), if_pos (by omega), w64s i (by omega)]
          rcases hp with hp | hp
          · rw [if_pos hp]
          · rw [if_neg (by omega), if_pos hp]
        · intro k i hi hp
          simp only [spec_TableOk.l0]
          simp only [Bool.or_eq_false_iff, beq_eq_false_iff_ne] at hp
          rw [if_pos (by omega), if_pos (by omega), if_neg hp.1, if_neg hp.2]
        · intro k
          simp only [spec_TableOk.l0]
          rw [if_neg (by omega)]
      · rw [if_pos (by simpa using h2)]
        unfold tok
        rw [decide_eq_false (by rintro ⟨_, _, h⟩; rw [Int.toNat_natCast] at h; exact h2 h), Bool.false_and]
    · simp only [h1, decide_false, Option.bind_some]
      simp only [Bool.false_eq_true, if_false, spec_TableOk.j0, if_true]
      unfold tok
      rw [decide_eq_false (by omega), Bool.false_and]
  · rw [if_neg h0]
    simp only [Option.bind_some, Bool.false_eq_true, if_false, spec_TableOk.j0, if_true]
    unfold tok
    rw [decide_eq_false (by omega), Bool.false_and]
theorem shl_eq (n : Nat) (hn : n ≤ 60) : shl .i64 1 (n : Int) = (2 : Int) ^ n := by
  unfold shl
  rw [Int.toNat_natCast, show min n IntKind.i64.bits = n from by simp [IntKind.bits]; omega, Int.one_mul, IntKind.wrap_i64]
  have h1 := pow62 (n := n) (by omega)
  have h2 := pow_pos_ n
  omega
theorem impl_TableOk_eq (N : Int) (s : ByteArray) (hs : s.size ≤ 1099511627776) : ∀ k, s.size + 20 < k → impl_TableOk.f k N s = some (tok N s) := by
  intro k hk
  obtain ⟨k, rfl⟩ : ∃ m, k = m + 1 := ⟨k - 1, by omega⟩
  unfold impl_TableOk.f impl_within.f
  by_cases h0 : N ≥ 0
  · rw [if_pos h0]
    by_cases h1 : N ≤ 12
    · obtain ⟨n, rfl⟩ := Int.eq_ofNat_of_zero_le h0
      simp only [h1, decide_true, Option.bind_some, if_true]
      rw [u64_of (by omega) (by omega), if_pos (by omega), shl_eq n (by omega)]
      simp only [impl_TableOk.j0]
      by_cases h2 : (s.size : Int) = 2 ^ n
      · rw [if_neg (by simp [h2])]
        have h := rounds_all (fun k i => impl_TableOk.l0 k (s.size : Int) (i : Int) (n : Int) s) s.size (fun i => bt s i == 48 || bt s i == 49) true false ?_ ?_ ?_ k (by omega)
        · refine h.trans ?_
          unfold tok
          rw [decide_eq_true (⟨h0, h1, by rw [Int.toNat_natCast]; exact h2⟩ : 0 ≤ (n : Int) ∧ (n : Int) ≤ 12 ∧ (s.size : Int) = 2 ^ (n : Int).toNat), Bool.true_and]
          congr 1
          split <;> simp_all
        · intro k i hi hp
          simp only [impl_TableOk.l0]
          simp only [Bool.or_eq_true, beq_iff_eq] at hp
          rw [if_pos (by omega), if_pos (by omega), if_pos (by omega), w64s i (by omega)]
          rcases hp with hp | hp
          · rw [if_pos hp]
          · rw [if_neg (by omega), if_pos hp]
        · intro k i hi hp
          simp only [impl_TableOk.l0]
          simp only [Bool.or_eq_false_iff, beq_eq_false_iff_ne] at hp
          rw [if_pos (by omega), if_pos (by omega), if_pos (by omega), if_neg hp.1, if_neg hp.2]
        · intro k
          simp only [impl_TableOk.l0]
          rw [if_neg (by omega)]
      · rw [if_pos (by simpa using h2)]
        unfold tok
        rw [decide_eq_false (by rintro ⟨_, _, h⟩; rw [Int.toNat_natCast] at h; exact h2 h), Bool.false_and]
    · simp only [h1, decide_false, Option.bind_some]
      simp only [Bool.false_eq_true, if_false, impl_TableOk.j0, if_true]
      unfold tok
      rw [decide_eq_false (by omega), Bool.false_and]
  · rw [if_neg h0]
    simp only [Option.bind_some, Bool.false_eq_true, if_false, impl_TableOk.j0, if_true]
    unfold tok
    rw [decide_eq_false (by omega), Bool.false_and]
end Go.Proofs.Ytlpfmhikahlcoaa.Pure
set_option linter.unusedSimpArgs false
set_option linter.unusedVariables false
namespace Go.Proofs.Ytlpfmhikahlcoaa.Pure
open Go.RowKit Go.Proofs.Ytlpfmhikahlcoaa.G Go.Proofs.YtlpfmhikahlcoaaW.PrintWords Go.Proofs.YtlpfmhikahlcoaaW.PrintLast Go.Proofs.YtlpfmhikahlcoaaW.PrintMore
def digs (n : Nat) : List UInt8 := if n < 10 then [UInt8.ofNat (48 + n)] else digs (n / 10) ++ [UInt8.ofNat (48 + n % 10)]
termination_by n
decreasing_by omega
theorem digs_small {n : Nat} (h : n < 10) : digs n = [UInt8.ofNat (48 + n)] := by rw [digs, if_pos h]
theorem digs_big {n : Nat} (h : ¬ n < 10) : digs n = digs (n / 10) ++ [UInt8.ofNat (48 + n % 10)] := by rw [digs, if_neg h]
theorem digs_len (d : Nat) : ∀ n, n < 10 ^ d → (digs n).length ≤ max 1 d := by
  induction d with
  | zero => intro n hn; rw [digs_small (by omega)]; simp
  | succ d ih =>
    intro n hn
    by_cases h : n < 10
    · rw [digs_small h]; simp <;> omega
    · rw [digs_big h]
      have := ih (n / 10) (by rw [Nat.pow_succ] at hn; omega)
      simp
      by_cases hd : d = 0
      · subst hd; omega
      · omega
def byts (l : List UInt8) : ByteArray := ⟨l.toArray⟩
theorem byts_append (a b : List UInt8) : byts a ++ byts b = byts (a ++ b) := by
  apply data_inj
  rw [ByteArray.data_append]
  simp [byts]
theorem byts_size (l : List UInt8) : (byts l).size = l.length := by
  show l.toArray.size = _
  simp
theorem byts_inj {a b : List UInt8} (h : byts a = byts b) : a = b := by
  have := congrArg (fun s : ByteArray => s.data.toList) h
  simpa [byts] using this
theorem digits_step (k : Nat) (s : List UInt8) (x : Nat) (h1 : x ≤ 18446744073709551615) (hs : s.length ≤ 100) (h0 : s = [] ∨ 0 < x) : impl_digits.l0 (k + 1) (x : Int) (byts s) = impl_digits.l0 k ((x / 10 : Nat) : Int) (byts (UInt8.ofNat (48 + x % 10) :: s)) := by
  have hm : Int.tmod (x : Int) 10 = ((x % 10 : Nat) : Int) := by rw [Int.tmod_eq_emod_of_nonneg (by omega)]; omega
  have hd : Int.tdiv (x : Int) 10 = ((x / 10 : Nat) : Int) := by rw [Int.tdiv_eq_ediv_of_nonneg (by omega)]; omega
  have he : (byts s).toList = s := by rw [toList_data]; simp [byts]
  have hc : strOfNums [(IntKind.u64.wrap (48 + Int.tmod (x : Int) 10)) % 256] = byts [UInt8.ofNat (48 + x % 10)] := by
    rw [hm, u64_of (by omega) (by omega), show ((48 : Int) + ((x % 10 : Nat) : Int)) % 256 = ((48 + x % 10 : Nat) : Int) by omega]
    rfl
  simp only [impl_digits.l0, he, Option.bind_some, hc, byts_size, hd]
  rw [u64_of (a := ((x / 10 : Nat) : Int)) (by omega) (by omega), byts_append]
  by_cases hs0 : s = []
  · rw [if_pos hs0, if_pos (by rw [List.length_singleton]; omega)]; rfl
  · have hx := h0.resolve_left hs0
    rw [if_neg hs0, if_pos (by omega), if_pos (by rw [List.length_singleton]; omega)]; rfl
theorem digits_stop (k : Nat) (s : List UInt8) (hs : s ≠ []) : impl_digits.l0 (k + 1) 0 (byts s) = some (byts s) := by
  have he : (byts s).toList = s := by rw [toList_data]; simp [byts]
  simp only [impl_digits.l0, he]
  rw [if_neg hs, if_neg (by decide)]
theorem digits_loop (d : Nat) : ∀ (x : Nat) (s : List UInt8) (k : Nat), (s = [] ∨ 0 < x) → x < 10 ^ (d + 1) → x ≤ 18446744073709551615 → s.length + d ≤ 60 → d + 1 < k → impl_digits.l0 k (x : Int) (byts s) = some (byts (digs x ++ s)) := by
  induction d with
  | zero =>
    intro x s k h0 h1 h2 h3 hk
    obtain ⟨k, rfl⟩ : ∃ m, k = m + 2 := ⟨k - 2, by omega⟩
    rw [digits_step (k + 1) s x h2 (by omega) h0, show x / 10 = 0 by omega, show ((0 : Nat) : Int) = 0 from rfl, digits_stop _ _ (by simp), digs_small (by omega), Nat.mod_eq_of_lt (by omega)]
    rfl
  | succ d ih =>
    intro x s k h0 h1 h2 h3 hk
    obtain ⟨k, rfl⟩ : ∃ m, k = m + 1 := ⟨k - 1, by omega⟩
    rw [digits_step k s x h2 (by omega) h0]
    by_cases h : x < 10
    · obtain ⟨k, rfl⟩ : ∃ m, k = m + 1 := ⟨k - 1, by omega⟩
      rw [show x / 10 = 0 by omega, show ((0 : Nat) : Int) = 0 from rfl, digits_stop _ _ (by simp), digs_small h, Nat.mod_eq_of_lt h]
      rfl
    · rw [ih (x / 10) _ k (.inr (by omega)) (by rw [Nat.pow_succ] at h1; omega) (by omega) (by simp; omega) (by omega), digs_big h]
      simp
theorem impl_digits_eq (n : Nat) (hn : n ≤ 18446744073709551615) : ∀ k, 22 ≤ k → impl_digits.f k (n : Int) = some (byts (digs n)) := by
  intro k hk
  unfold impl_digits.f
  have h := digits_loop 19 n [] k (.inl rfl) (by omega) hn (by simp) (by omega)
  simpa [byts] using h
def decs (a : Int) : List UInt8 := if a < 0 then 45 :: digs (-a).toNat else digs a.toNat
theorem impl_decimal_eq (a : Int) (h0 : -9223372036854775808 ≤ a) (h1 : a ≤ 9223372036854775807) : ∀ k, 22 ≤ k → impl_decimal.f k a = some (byts (decs a)) := by
  intro k hk
  unfold impl_decimal.f decs
  by_cases h : a < 0
  · rw [if_pos h, if_pos h, w64 (n := a + 1) (by omega) (by omega), w64 (n := -(a + 1)) (by omega) (by omega), u64_of (a := -(a + 1)) (by omega) (by omega), u64_of (a := -(a + 1) + 1) (by omega) (by omega), show -(a + 1) + 1 = (((-a).toNat : Nat) : Int) by omega, impl_digits_eq _ (by omega) k hk, Option.bind_some]
    have := digs_len 20 (-a).toNat (by omega)
    rw [if_pos (by rw [byts_size]; omega)]
    exact congrArg some (byts_append [45] _)
  · rw [if_neg h, if_neg h, u64_of (by omega) (by omega), show a = ((a.toNat : Nat) : Int) by omega, impl_digits_eq _ (by omega) k hk, Option.bind_some]
    rfl
def keyOf (N : Int) (s : ByteArray) : ByteArray := if tok N s then byts (digs N.toNat) ++ ⟨#[58]⟩ ++ s else ⟨#[]⟩
end Go.Proofs.Ytlpfmhikahlcoaa.Pure
set_option linter.unusedSimpArgs false
set_option linter.unusedVariables false
namespace Go.Proofs.Ytlpfmhikahlcoaa.Pure
open Go.RowKit Go.Proofs.YtlpfmhikahlcoaaW.PrintWords Go.Proofs.YtlpfmhikahlcoaaW.PrintLast Go.Proofs.YtlpfmhikahlcoaaW.PrintMore
theorem ev_some {α : Type} (r : α) : Ev (fun _ => some r) r := ⟨0, fun _ _ => rfl⟩
theorem ev_ge {α : Type} {g : Nat → Option α} {r : α} (n : Nat) (h : ∀ k, n < k → g k = some r) : Ev g r := ⟨n + 1, fun k hk => h k (by omega)⟩
theorem ev_step {α : Type} {g f : Nat → Option α} {r : α} (h : ∀ k, g (k + 1) = f k) (e : Ev f r) : Ev g r := by
  obtain ⟨K, e⟩ := e
  refine ⟨K + 1, fun k hk => ?_⟩
  obtain ⟨m, rfl⟩ : ∃ m, k = m + 1 := ⟨k - 1, by omega⟩
  rw [h m]
  exact e m (by omega)
theorem ev_succ {α : Type} {g : Nat → Option α} {r : α} (e : Ev (fun k => g (k + 1)) r) : Ev g r := ev_step (fun _ => rfl) e
theorem ev_eq {α : Type} {g f : Nat → Option α} {r : α} (h : ∀ k, g k = f k) (e : Ev f r) : Ev g r := by
  obtain ⟨K, e⟩ := e
  exact ⟨K, fun k hk => (h k).trans (e k hk)⟩
theorem ev_bind {α β : Type} {g : Nat → Option α} {f : Nat → α → Option β} {a : α} {r : β} (h : Ev g a) (e : Ev (fun n => f n a) r) : Ev (fun n => (g n).bind (f n)) r := by
  obtain ⟨K, h⟩ := h
  obtain ⟨M, e⟩ := e
  refine ⟨K + M, fun n hn => ?_⟩
  show (g n).bind (f n) = some r
  rw [h n (by omega)]
  exact e n (by omega)
theorem ev_rounds {α : Type} {g : Nat → Option α} {r : α} (h : Ev g r) : ∃ k, g k = some r := by
  obtain ⟨K, h⟩ := h
  exact ⟨K, h K (Nat.le_refl _)⟩
theorem ev_loop {α : Type} (L : Nat → Nat → Option α) (n : Nat) (r : α) (step : ∀ i, i < n → Ev (fun k => L k (i + 1)) r → Ev (fun k => L k i) r) (stop : Ev (fun k => L k n) r) : ∀ i, i ≤ n → Ev (fun k => L k i) r := by
  have h : ∀ d i, i + d = n → Ev (fun k => L k i) r := by
    intro d
    induction d with
    | zero =>
      intro i hi
      obtain rfl : i = n := by omega
      exact stop
    | succ d ih => intro i hi; exact step i (by omega) (ih (i + 1) (by omega))
  exact fun i hi => h (n - i) i (by omega)
end Go.Proofs.Ytlpfmhikahlcoaa.Pure
set_option linter.unusedSimpArgs false
set_option linter.unusedVariables false
namespace Go.Proofs.Ytlpfmhikahlcoaa.Pure
open Go.RowKit Go.Proofs.Ytlpfmhikahlcoaa.G Go.Proofs.YtlpfmhikahlcoaaW.PrintWords Go.Proofs.YtlpfmhikahlcoaaW.PrintLast Go.Proofs.YtlpfmhikahlcoaaW.PrintMore
theorem u8_digit {n : Nat} (h : n < 10) : (UInt8.ofNat (48 + n)).toNat = 48 + n := by
  rw [UInt8.toNat_ofNat']
  omega
def numD (l : List UInt8) : Nat := l.foldl (fun a c => 10 * a + (c.toNat - 48)) 0
theorem numD_digs : ∀ n, numD (digs n) = n := by
  intro n
  induction n using Nat.strongRecOn with
  | ind n ih =>
    by_cases h : n < 10
    · rw [digs_small h]
      unfold numD
      simp only [List.foldl_cons, List.foldl_nil]
      rw [u8_digit h]
      omega
    · have e := ih (n / 10) (by omega)
      rw [digs_big h]
      unfold numD at e ⊢
      rw [List.foldl_append, e]
      simp only [List.foldl_cons, List.foldl_nil]
      rw [u8_digit (by omega)]
      omega
theorem digs_ge : ∀ n, ∀ c ∈ digs n, 48 ≤ c.toNat := by
  intro n
  induction n using Nat.strongRecOn with
  | ind n ih =>
    intro c hc
    by_cases h : n < 10
    · rw [digs_small h, List.mem_singleton] at hc
      rw [hc, u8_digit h]
      omega
    · rw [digs_big h] at hc
      rcases List.mem_append.1 hc with hc | hc
      · exact ih (n / 10) (by omega) c hc
      · rw [List.mem_singleton] at hc
        rw [hc, u8_digit (by omega)]
        omega
theorem decs_inj {a b : Int} (h : decs a = decs b) : a = b := by
  have key : ∀ x y : Nat, (45 : UInt8) :: digs x ≠ digs y := by
    intro x y e
    have := digs_ge y 45 (by rw [← e]; simp)
    exact absurd this (by decide)
  unfold decs at h
  by_cases ha : a < 0
  · rw [if_pos ha] at h
    by_cases hb : b < 0
    · rw [if_pos hb] at h
      have e := congrArg numD (List.cons.inj h).2
      rw [numD_digs, numD_digs] at e
      omega
    · rw [if_neg hb] at h
      exact absurd h (key _ _)
  · rw [if_neg ha] at h
    by_cases hb : b < 0
    · rw [if_pos hb] at h
      exact absurd h.symm (key _ _)
    · rw [if_neg hb] at h
      have e := congrArg numD h
      rw [numD_digs, numD_digs] at e
      omega
theorem decs_blank (a : Int) : (32 : UInt8) ∉ decs a := by
  intro h
  unfold decs at h
  split at h
  · rcases List.mem_cons.1 h with h | h
    · exact absurd h (by decide)
    · exact absurd (digs_ge _ _ h) (by decide)
  · exact absurd (digs_ge _ _ h) (by decide)
theorem split_blank : ∀ {p q r s : List UInt8}, (32 : UInt8) ∉ p → (32 : UInt8) ∉ q → p ++ 32 :: r = q ++ 32 :: s → p = q ∧ r = s := by
  intro p
  induction p with
  | nil =>
    intro q r s _ hq h
    cases q with
    | nil => exact ⟨rfl, (List.cons.inj h).2⟩
    | cons c q => exact absurd (by rw [(List.cons.inj h).1]; simp) hq
  | cons c p ih =>
    intro q r s hp hq h
    cases q with
    | nil => exact absurd (by rw [← (List.cons.inj h).1]; simp) hp
    | cons d q =>
      obtain ⟨h1, h2⟩ := List.cons.inj h
      obtain ⟨h3, h4⟩ := ih (fun e => hp (List.mem_cons_of_mem _ e)) (fun e => hq (List.mem_cons_of_mem _ e)) h2
      exact ⟨by rw [h1, h3], h4⟩
def keyL (vals : List Int) : List UInt8 := vals.flatMap fun v => decs v ++ [32]
theorem keyL_inj : ∀ {a b : List Int}, keyL a = keyL b → a = b := by
  intro a
  induction a with
  | nil =>
    intro b h
    cases b with
    | nil => rfl
    | cons v b => simp [keyL] at h
  | cons u a ih =>
    intro b h
    cases b with
    | nil => simp [keyL] at h
    | cons v b =>
      simp only [keyL, List.flatMap_cons, List.append_assoc, List.singleton_append] at h
      obtain ⟨h1, h2⟩ := split_blank (decs_blank u) (decs_blank v) h
      rw [decs_inj h1, ih h2]
theorem keyL_snoc (a : List Int) (v : Int) : keyL (a ++ [v]) = keyL a ++ (decs v ++ [32]) := by simp [keyL]
theorem decs_len {a : Int} (h0 : -9223372036854775808 ≤ a) (h1 : a ≤ 9223372036854775807) : (decs a).length ≤ 20 := by
  unfold decs
  split
  · have := digs_len 19 (-a).toNat (by have : (10 : Nat) ^ 19 = 10000000000000000000 := by decide
                                       omega)
    rw [List.length_cons]
    omega
  · have := digs_len 19 a.toNat (by have : (10 : Nat) ^ 19 = 10000000000000000000 := by decide
                                    omega)
    omega
theorem keyL_len : ∀ {vals : List Int}, (∀ v ∈ vals, (Lit.int .i64 v).wf = true) → (keyL vals).length ≤ 21 * vals.length := by
  intro vals
  induction vals with
  | nil => intro _; simp [keyL]
  | cons v vals ih =>
    intro h
    have hv := wfi (h v (by simp))
    have h1 := decs_len hv.1 hv.2
    have h2 := ih fun x hx => h x (by simp [hx])
    simp only [keyL, List.flatMap_cons, List.length_append, List.length_singleton, List.length_cons, List.length_nil] at h2 ⊢
    omega
theorem valsKey_ev (vals : List Int) (hw : ∀ v ∈ vals, (Lit.int .i64 v).wf = true) (hl : vals.length ≤ 1048576) : Ev (fun k => impl_valsKey.f k vals) (byts (keyL vals)) := by
  have main : ∀ i, i ≤ vals.length → Ev (fun k => impl_valsKey.l0 k (byts (keyL (vals.take i))) vals (vals.length : Int) (i : Int)) (byts (keyL vals)) := by
    refine ev_loop (fun k i => impl_valsKey.l0 k (byts (keyL (vals.take i))) vals (vals.length : Int) (i : Int)) vals.length _ (fun i hi e => ?_) ?_
    · have hmem : vals.getD i 0 ∈ vals := by rw [getD_lt vals i _ hi]; exact List.getElem_mem _
      have hv := wfi (hw _ hmem)
      have h1 := decs_len hv.1 hv.2
      have h2 := keyL_len (vals := vals.take i) fun x hx => hw x (List.mem_of_mem_take hx)
      rw [List.length_take] at h2
      refine ev_succ ?_
      simp only [impl_valsKey.l0, if_pos (show (i : Int) < (vals.length : Int) by omega), if_pos (show 0 ≤ (i : Int) by omega), rd_nat]
      refine ev_bind (ev_ge 21 fun k hk => impl_decimal_eq (vals.getD i 0) hv.1 hv.2 k (by omega)) ?_
      simp only [byts_size, if_pos (show (keyL (vals.take i)).length + (decs (vals.getD i 0)).length ≤ 9223372036854775807 by omega), if_pos (show (keyL (vals.take i)).length + (decs (vals.getD i 0)).length + 1 ≤ 9223372036854775807 by omega), w64s i (show i < 4611686018427387904 by omega)]
      rw [take_succ_getD vals i 0 hi, keyL_snoc] at e
      rw [byts_append, show (⟨#[32]⟩ : ByteArray) = byts [32] from rfl, byts_append, List.append_assoc]
      exact e
    · refine ev_succ ?_
      simp only [impl_valsKey.l0, if_neg (show ¬ (vals.length : Int) < (vals.length : Int) by omega), List.take_length]
      exact ev_some _
  exact main 0 (by omega)
end Go.Proofs.Ytlpfmhikahlcoaa.Pure
set_option linter.unusedSimpArgs false
set_option linter.unusedVariables false
namespace Go.Proofs.Ytlpfmhikahlcoaa.Pure
open Go.RowKit Go.Proofs.Ytlpfmhikahlcoaa.G Go.Proofs.YtlpfmhikahlcoaaW.PrintWords Go.Proofs.YtlpfmhikahlcoaaW.PrintLast Go.Proofs.YtlpfmhikahlcoaaW.PrintMore
def flags (s : ByteArray) : List Bool := s.data.toList.map fun c => c == 49
theorem flags_ones (l : List Bool) : flags (ones l) = l := by
  unfold flags
  simp only [ones, List.map_map]
  exact (List.map_congr_left (fun b _ => by cases b <;> rfl)).trans (List.map_id l)
theorem range_getD (l : List Bool) (f : Bool → Bool) : (List.range l.length).map (fun i => f (l.getD i false)) = l.map f := by
  apply List.ext_getElem
  · simp
  · intro i h1 h2
    simp only [List.getElem_map, List.getElem_range]
    rw [getD_lt l i false (by simpa using h1)]
end Go.Proofs.Ytlpfmhikahlcoaa.Pure
set_option linter.unusedSimpArgs false
set_option linter.unusedVariables false
namespace Go.Proofs.Ytlpfmhikahlcoaa.Pure
open Go.RowKit Go.Proofs.Ytlpfmhikahlcoaa.G Go.Proofs.YtlpfmhikahlcoaaW.PrintWords Go.Proofs.YtlpfmhikahlcoaaW.PrintLast Go.Proofs.YtlpfmhikahlcoaaW.PrintMore
theorem ones_data (l : List Bool) : (ones l).data.toList = l.map fun b => if b then (49 : UInt8) else 48 := by simp [ones]
theorem contains1 (l : List Bool) : (ones l).data.toList.contains 49 = l.contains true := by
  rw [ones_data]
  induction l with
  | nil => rfl
  | cons b l ih =>
    rw [List.map_cons, List.contains_cons, List.contains_cons, ih]
    congr 1
    cases b <;> rfl
theorem contains0 (l : List Bool) : (ones l).data.toList.contains 48 = l.contains false := by
  rw [ones_data]
  induction l with
  | nil => rfl
  | cons b l ih =>
    rw [List.map_cons, List.contains_cons, List.contains_cons, ih]
    congr 1
    cases b <;> rfl
def knownT (N : Int) (s : ByteArray) : Int := if tok N s then (if (flags s).contains true then (if (flags s).contains false then -1 else 1) else 0) else -1
theorem all_cont (t : List Bool) (b : Bool) : (t.all fun x => x == b) = !t.contains (!b) := by
  induction t with
  | nil => rfl
  | cons x t ih =>
    rw [List.all_cons, ih, List.contains_cons]
    cases x <;> cases b <;> simp
theorem range_all_getD (t : List Bool) (b : Bool) : ((List.range t.length).all fun i => t.getD i false == b) = t.all fun x => x == b := by
  have h := congrArg (fun m : List Bool => m.all id) (range_getD t (fun x => x == b))
  simpa [List.all_map, Function.comp_def] using h
theorem impl_Table_known_eq (N : Int) (l : List Bool) : impl_Table_known.f N (ones l) = some (if l.contains true then (if l.contains false then -1 else 1) else 0) := by
  unfold impl_Table_known.f
  rw [show strings_Contains.f (ones l) ⟨#[49]⟩ = some ((ones l).data.toList.contains 49) from rfl, show strings_Contains.f (ones l) ⟨#[48]⟩ = some ((ones l).data.toList.contains 48) from rfl, contains1, contains0]
  have hb : ∀ b, impl_bit.f b = some (if b then 1 else 0) := fun b => by cases b <;> rfl
  simp only [Option.bind_some, hb]
  cases l.contains true <;> cases l.contains false <;> rfl
theorem spec_Known_eq (N : Int) (s : ByteArray) (hs : s.size ≤ 1099511627776) : ∀ k, s.size + 20 < k → spec_Known.f k N s = some (knownT N s) := by
  intro k hk
  unfold spec_Known.f knownT
  rw [spec_TableOk_eq N s hs k hk, Option.bind_some]
  cases ht : tok N s with
  | false => rfl
  | true =>
    obtain ⟨n, l, rfl, hn, hl, rfl⟩ := tok_form ht
    have hp := pow12 hn
    have hpos : 0 < 2 ^ n := Nat.two_pow_pos n
    rw [if_pos rfl, if_pos rfl, flags_ones]
    cases l with
    | nil => simp at hl; omega
    | cons b t =>
      simp only [List.length_cons] at hl
      have h := rounds_all (fun k i => spec_Known.l0 k ((i + 1 : Nat) : Int) (n : Int) (ones (b :: t))) t.length (fun i => t.getD i false == b) (if b then 1 else 0) (-1) ?_ ?_ ?_ k (by rw [ones_size] at hk; simp at hk; omega)
      · refine h.trans ?_
        rw [range_all_getD, all_cont]
        cases b <;> cases h1 : t.contains true <;> cases h2 : t.contains false <;> simp_all
      all_goals simp only [spec_Known.l0]
      · intro k i hi hpi
        rw [if_pos (by rw [ones_size, List.length_cons]; omega), if_pos (by omega), if_pos (by rw [ones_size, List.length_cons]; omega), bt_ones _ (i + 1) (by simp; omega), show (0 : Int) = ((0 : Nat) : Int) from rfl, bt_ones _ 0 (by simp), if_pos (by simpa using congrArg sgn (beq_iff_eq.1 hpi)), w64s (i + 1) (by omega)]
      · intro k i hi hpi
        rw [if_pos (by rw [ones_size, List.length_cons]; omega), if_pos (by omega), if_pos (by rw [ones_size, List.length_cons]; omega), bt_ones _ (i + 1) (by simp; omega), show (0 : Int) = ((0 : Nat) : Int) from rfl, bt_ones _ 0 (by simp), if_neg ?_]
        simp only [List.getD_cons_succ, List.getD_cons_zero]
        intro e
        have hx : ∀ x y : Bool, sgn x = sgn y → x = y := by decide
        rw [hx _ _ e] at hpi
        simp at hpi
      · intro k
        rw [if_neg (by rw [ones_size, List.length_cons]; omega), if_pos (by rw [ones_size, List.length_cons]; omega), show (0 : Int) = ((0 : Nat) : Int) from rfl, bt_ones _ 0 (by simp), List.getD_cons_zero]
        cases b <;> decide +kernel
end Go.Proofs.Ytlpfmhikahlcoaa.Pure
set_option linter.unusedSimpArgs false
set_option linter.unusedVariables false
namespace Go.Proofs.Ytlpfmhikahlcoaa.Pure
open Go.RowKit Go.Proofs.Ytlpfmhikahlcoaa.G Go.Proofs.YtlpfmhikahlcoaaW.PrintWords Go.Proofs.YtlpfmhikahlcoaaW.PrintLast Go.Proofs.YtlpfmhikahlcoaaW.PrintMore
theorem ones_extract (l : List Bool) (a b : Nat) : (ones l).extract a b = ones ((l.take b).drop a) := by
  apply data_inj
  rw [ByteArray.data_extract]
  simp only [ones, Array.toList_extract, List.extract_eq_take_drop, List.map_drop, List.map_take]
  rw [List.drop_take]
def halfL (l : List Bool) (h : Bool) : List Bool := if h then l.drop (l.length / 2) else l.take (l.length / 2)
theorem halfL_len {n : Nat} {l : List Bool} (hl : l.length = 2 ^ (n + 1)) (h : Bool) : (halfL l h).length = 2 ^ n := by
  rw [Nat.pow_succ] at hl
  cases h <;> simp [halfL] <;> omega
def halfT (N : Int) (s : ByteArray) (h : Int) : Int × ByteArray × Bool := if tok N s && (N != 0) && (h == 0 || h == 1) then (N - 1, ones (halfL (flags s) (h == 1)), true) else (0, ⟨#[]⟩, false)
theorem impl_half_eq (n : Nat) (l : List Bool) (hn : n ≤ 11) (hl : l.length = 2 ^ (n + 1)) (h : Int) : impl_Table_half.f ((n + 1 : Nat) : Int) (ones l) h = some ((n : Int), ones (halfL l (h != 0))) := by
  have hp := pow12 (n := n + 1) (by omega)
  unfold impl_Table_half.f
  rw [ones_size, show ((l.length : Nat) : Int) / 2 = ((l.length / 2 : Nat) : Int) by omega, w64 (n := ((l.length / 2 : Nat) : Int)) (by omega) (by omega), w64 (n := ((n + 1 : Nat) : Int) - 1) (by omega) (by omega), show ((n + 1 : Nat) : Int) - 1 = (n : Int) by omega, Int.toNat_natCast]
  by_cases h0 : h = 0
  · rw [if_pos h0, if_pos (by omega), if_pos (by omega), ones_extract, h0]
    rfl
  · have e : (h != 0) = true := bne_iff_ne.2 h0
    rw [if_neg h0, if_pos (by omega), if_pos (by omega), ones_extract, List.take_of_length_le (by omega), e]
    rfl
theorem spec_Half_eq (N : Int) (s : ByteArray) (h : Int) (hs : s.size ≤ 1099511627776) : ∀ k, s.size + 20 < k → spec_Half.f k N s h = some (halfT N s h) := by
  intro k hk
  unfold spec_Half.f halfT
  rw [spec_TableOk_eq N s hs k hk, Option.bind_some]
  cases ht : tok N s with
  | false => rfl
  | true =>
    obtain ⟨n, l, rfl, hn, hl, rfl⟩ := tok_form ht
    have hp := pow12 hn
    rw [if_pos rfl]
    by_cases h0 : (n : Int) = 0
    · rw [if_pos h0, h0]
      rfl
    · have e0 : ((n : Int) != 0) = true := bne_iff_ne.2 h0
      rw [if_neg h0, e0]
      unfold spec_l01In.f
      by_cases h1 : h = 0 ∨ h = 1
      · obtain ⟨m, rfl⟩ : ∃ m, n = m + 1 := ⟨n - 1, by omega⟩
        have hl2 : l.length = 2 * 2 ^ m := by rw [hl, Nat.pow_succ, Nat.mul_comm]
        have hhalf : l.length / 2 = 2 ^ m := by omega
        rw [if_pos (by omega), Option.bind_some, if_pos (by simp; omega), ones_size, show ((l.length : Nat) : Int) / 2 = ((l.length / 2 : Nat) : Int) by omega, w64 (n := ((l.length / 2 : Nat) : Int)) (by omega) (by omega), w64 (n := ((m + 1 : Nat) : Int) - 1) (by omega) (by omega)]
        rcases h1 with h1 | h1
        · subst h1
          rw [Int.zero_mul, w64 (n := 0) (by omega) (by omega), Int.zero_add, w64 (n := ((l.length / 2 : Nat) : Int)) (by omega) (by omega), if_pos (by omega), if_pos (by omega), if_pos (by omega), Int.toNat_natCast, show (0 : Int).toNat = 0 from rfl, ones_extract, flags_ones]
          rfl
        · subst h1
          rw [Int.one_mul, w64 (n := ((l.length / 2 : Nat) : Int)) (by omega) (by omega), w64 (n := ((l.length / 2 : Nat) : Int) + ((l.length / 2 : Nat) : Int)) (by omega) (by omega), if_pos (by omega), if_pos (by omega), if_pos (by omega), Int.toNat_natCast, show (((l.length / 2 : Nat) : Int) + ((l.length / 2 : Nat) : Int)).toNat = l.length by omega, ones_extract, flags_ones, List.take_length]
          rfl
      · have e : (h == 0 || h == 1) = false := by simp; omega
        rw [e]
        by_cases h2 : h ≥ 0
        · rw [if_pos h2, Option.bind_some, if_neg (by simp; omega)]
          rfl
        · rw [if_neg h2, Option.bind_some, if_neg (by decide)]
          rfl
def b01 (b : Bool) : Int := if b then 1 else 0
end Go.Proofs.Ytlpfmhikahlcoaa.Pure
set_option linter.unusedSimpArgs false
set_option linter.unusedVariables false
namespace Go.Proofs.Ytlpfmhikahlcoaa.Pure
open Go.RowKit Go.Proofs.Ytlpfmhikahlcoaa.G Go.Proofs.YtlpfmhikahlcoaaW.PrintWords Go.Proofs.YtlpfmhikahlcoaaW.PrintLast Go.Proofs.YtlpfmhikahlcoaaW.PrintMore
def owner (v : Int) (l : List Bool) : List Bool := if v = 0 ∨ v = 1 then l.map (fun a => a == (v == 0)) else []
theorem impl_Owner_eq (v : Int) (l : List Bool) (hl : l.length ≤ 1048576) : ∀ k, l.length + 1 < k → impl_Owner.f k l v = some (owner v l) := by
  intro k hk
  obtain ⟨k, rfl⟩ : ∃ m, k = m + 1 := ⟨k - 1, by omega⟩
  have loop : v = 0 ∨ v = 1 → impl_Owner.l0 k v [] l (l.length : Int) 0 = some (owner v l) := by
    intro hv
    have h := rounds (fun k i => impl_Owner.l0 k v ((l.take i).map (fun a => a == (v == 0))) l (l.length : Int) (i : Int)) l.length (l.map (fun a => a == (v == 0))) ?_ ?_ k (by omega)
    · rw [owner, if_pos hv]
      simpa using h
    · intro k i hi
      simp only [impl_Owner.l0]
      rw [if_pos (by omega), if_pos (by omega), if_pos (by omega), if_pos (by simp; omega), rdOf_nat, w64s i (by omega), take_succ_getD l i false hi, List.map_append]
      rfl
    · intro k
      simp only [impl_Owner.l0]
      rw [if_neg (by omega), List.take_length]
  unfold impl_Owner.f
  simp only [Option.bind_some, impl_Owner.j0]
  by_cases h0 : v = 0
  · rw [if_pos h0, if_neg (by decide)]
    exact loop (.inl h0)
  · rw [if_neg h0]
    by_cases h1 : v = 1
    · rw [if_neg (by simp [h1])]
      exact loop (.inr h1)
    · rw [if_pos (by simpa using h1), owner, if_neg (by omega)]
end Go.Proofs.Ytlpfmhikahlcoaa.Pure
set_option linter.unusedSimpArgs false
set_option linter.unusedVariables false
namespace Go.Proofs.Ytlpfmhikahlcoaa.Pure
open Go.RowKit Go.Proofs.Ytlpfmhikahlcoaa.G Go.Proofs.Ytlpfmhikahlcoaa.Mp Go.Proofs.YtlpfmhikahlcoaaW.PrintWords Go.Proofs.YtlpfmhikahlcoaaW.PrintLast Go.Proofs.YtlpfmhikahlcoaaW.PrintMore
def firstV : List S108 → List Int → Option Int
  | [], _ => none
  | x :: l, vals => if x.f0 = vals then some x.f1 else firstV l vals
theorem firstV_snoc (x : S108) (vals : List Int) : ∀ l, firstV (l ++ [x]) vals = if (firstV l vals).isSome then firstV l vals else if x.f0 = vals then some x.f1 else none := by
  intro l
  induction l with
  | nil => rfl
  | cons y l ih =>
    simp only [List.cons_append, firstV]
    split
    · rfl
    · exact ih
theorem rdP_nat (L : List S108) (i : Nat) : rd_T108 L (i : Int) = L.getD i z108 := by unfold rd_T108; simp
def okP (l : List S108) : Prop := l.length ≤ 1048576 ∧ ∀ x ∈ l, x.f0.length ≤ 1048576 ∧ (∀ v ∈ x.f0, (Lit.int .i64 v).wf = true) ∧ (Lit.int .i64 x.f1).wf = true
def mapOk (R : List (ByteArray × Int)) (l : List S108) : Prop := ∀ vals, mhas R (byts (keyL vals)) = (firstV l vals).isSome ∧ mget R (byts (keyL vals)) = (firstV l vals).getD 0
theorem pk_ev {l : List S108} (hl : okP l) : ∃ R, Ev (fun k => pkF k l [] 0) R ∧ mapOk R l := by
  have main : ∀ d i (L : List (ByteArray × Int)), i + d = l.length → L.length ≤ i → mapOk L (l.take i) → ∃ R, Ev (fun k => pkF k l L (i : Int)) R ∧ mapOk R l := by
    intro d
    induction d with
    | zero =>
      intro i L hi _ hm
      rw [List.take_of_length_le (by omega)] at hm
      refine ⟨L, ev_succ ?_, hm⟩
      simp only [pkF, if_neg (show ¬ (i : Int) < (l.length : Int) by omega)]
      exact ev_some _
    | succ d ih =>
      intro i L hi hL hm
      have hil : i < l.length := by omega
      have hlen := hl.1
      have hmem : rd_T108 l (i : Int) ∈ l := by rw [rdP_nat, getD_lt l i _ hil]; exact List.getElem_mem _
      obtain ⟨h1, h2, h3⟩ := hl.2 _ hmem
      have hk := keyL_len h2
      have htk : l.take (i + 1) = l.take i ++ [rd_T108 l (i : Int)] := by rw [rdP_nat, take_succ_getD l i z108 hil]
      have hcond : (byts (keyL (rd_T108 l (i : Int)).f0)).size ≤ maxLen ∧ (Lit.int .i64 (rd_T108 l (i : Int)).f1).wf = true ∧ L.length < maxLen := by
        unfold maxLen
        rw [byts_size]
        exact ⟨by omega, h3, by omega⟩
      by_cases c : mhas L (byts (keyL (rd_T108 l (i : Int)).f0)) = true
      · obtain ⟨R, e, hR⟩ := ih (i + 1) L (by omega) (by omega) (by
          intro vals
          rw [htk, firstV_snoc]
          obtain ⟨a, b⟩ := hm vals
          by_cases hv : (rd_T108 l (i : Int)).f0 = vals
          · rw [hv] at c
            rw [a] at c
            rw [if_pos c]
            exact ⟨a, b⟩
          · rw [if_neg hv]
            cases hf : firstV (l.take i) vals with
            | none => rw [hf] at a b; exact ⟨a, b⟩
            | some z => rw [hf] at a b; exact ⟨a, b⟩)
        refine ⟨R, ev_succ ?_, hR⟩
        simp only [pkF, if_pos (show (i : Int) < (l.length : Int) by omega), if_pos (show 0 ≤ (i : Int) by omega)]
        refine ev_bind (valsKey_ev _ h2 h1) ?_
        simp only [if_pos hcond, if_pos c, w64s i (show i < 4611686018427387904 by omega)]
        exact e
      · obtain ⟨R, e, hR⟩ := ih (i + 1) ((byts (keyL (rd_T108 l (i : Int)).f0), (rd_T108 l (i : Int)).f1) :: L) (by omega) (by simp; omega) (by
          intro vals
          rw [htk, firstV_snoc]
          obtain ⟨a, b⟩ := hm vals
          simp only [mhas, mget]
          by_cases hv : (rd_T108 l (i : Int)).f0 = vals
          · rw [hv] at c
            rw [a] at c
            rw [hv, if_pos rfl, if_pos rfl, if_neg c, if_pos rfl]
            exact ⟨rfl, rfl⟩
          · have hne : ¬ byts (keyL (rd_T108 l (i : Int)).f0) = byts (keyL vals) := fun e => hv (keyL_inj (byts_inj e))
            rw [if_neg hne, if_neg hne, if_neg hv]
            cases hf : firstV (l.take i) vals with
            | none => rw [hf] at a b; exact ⟨a, b⟩
            | some z => rw [hf] at a b; exact ⟨a, b⟩)
        refine ⟨R, ev_succ ?_, hR⟩
        simp only [pkF, if_pos (show (i : Int) < (l.length : Int) by omega), if_pos (show 0 ≤ (i : Int) by omega)]
        refine ev_bind (valsKey_ev _ h2 h1) ?_
        simp only [if_pos hcond, if_neg c, w64s i (show i < 4611686018427387904 by omega)]
        exact e
  exact main l.length 0 [] (by omega) (by simp) (fun vals => ⟨rfl, rfl⟩)
theorem same10_ev (a b : List Int) (ha : a.length ≤ 1099511627776) : Ev (fun k => spec_l10Same.f k a b) (decide (a = b)) := by
  unfold spec_l10Same.f
  by_cases h : a.length = b.length
  · simp only [if_pos (show (a.length : Int) = (b.length : Int) by omega)]
    have main : ∀ d i, i + d = a.length → (∀ j, j < i → a.getD j 0 = b.getD j 0) → Ev (fun k => spec_l10Same.l0 k a b (i : Int)) (decide (a = b)) := by
      intro d
      induction d with
      | zero =>
        intro i hi hj
        refine ev_succ ?_
        simp only [spec_l10Same.l0, if_neg (show ¬ (i : Int) < (a.length : Int) by omega)]
        have : a = b := by
          apply List.ext_getElem h
          intro j h1 h2
          have := hj j (by omega)
          rw [getD_lt a j _ h1, getD_lt b j _ h2] at this
          exact this
        rw [decide_eq_true this]
        exact ev_some _
      | succ d ih =>
        intro i hi hj
        refine ev_succ ?_
        simp only [spec_l10Same.l0, if_pos (show (i : Int) < (a.length : Int) by omega), if_pos (show 0 ≤ (i : Int) by omega), if_pos (show (i : Int) < (b.length : Int) by omega), rd_nat, w64s i (show i < 4611686018427387904 by omega)]
        by_cases c : a.getD i 0 = b.getD i 0
        · simp only [if_pos c]
          exact ih (i + 1) (by omega) (fun j hj2 => by
            rcases Nat.lt_succ_iff_lt_or_eq.1 hj2 with hj2 | rfl
            · exact hj j hj2
            · exact c)
        · simp only [if_neg c]
          rw [decide_eq_false (fun e => c (by rw [e]))]
          exact ev_some _
    exact main a.length 0 (by omega) (fun j hj => by omega)
  · simp only [if_neg (show ¬ (a.length : Int) = (b.length : Int) by omega)]
    rw [decide_eq_false (fun e => h (by rw [e]))]
    exact ev_some _
def pickV : Option Int → Int
  | none => -1
  | some v => if v = 0 ∨ v = 1 then v else -1
theorem find10_ev {l : List S108} (hl : okP l) (vals : List Int) : Ev (fun k => spec_l10Find.f k l vals) (pickV (firstV l vals)) := by
  unfold spec_l10Find.f
  have hlen := hl.1
  have main : ∀ d i, i + d = l.length → Ev (fun k => spec_l10Find.l0 k l vals (i : Int)) (pickV (firstV (l.drop i) vals)) := by
    intro d
    induction d with
    | zero =>
      intro i hi
      refine ev_succ ?_
      simp only [spec_l10Find.l0, if_neg (show ¬ (i : Int) < (l.length : Int) by omega)]
      rw [List.drop_of_length_le (by omega)]
      exact ev_some _
    | succ d ih =>
      intro i hi
      have hil : i < l.length := by omega
      have hd : l.drop i = rd_T108 l (i : Int) :: l.drop (i + 1) := by rw [rdP_nat, getD_lt l i _ hil, ← List.drop_eq_getElem_cons]
      have hmem : rd_T108 l (i : Int) ∈ l := by rw [rdP_nat, getD_lt l i _ hil]; exact List.getElem_mem _
      obtain ⟨h1, h2, h3⟩ := hl.2 _ hmem
      refine ev_succ ?_
      simp only [spec_l10Find.l0, if_pos (show (i : Int) < (l.length : Int) by omega), if_pos (show 0 ≤ (i : Int) by omega), w64s i (show i < 4611686018427387904 by omega)]
      refine ev_bind (same10_ev _ vals (by omega)) ?_
      rw [hd]
      simp only [firstV]
      by_cases c : (rd_T108 l (i : Int)).f0 = vals
      · simp only [decide_eq_true c, if_true, if_pos c, pickV, spec_l01In.f]
        generalize (rd_T108 l (i : Int)).f1 = z
        by_cases c0 : z ≥ 0
        · simp only [if_pos c0, Option.bind_some]
          by_cases c1 : z ≤ 1
          · simp only [decide_eq_true c1, if_true, if_pos (show z = 0 ∨ z = 1 by omega)]
            exact ev_some _
          · simp only [decide_eq_false c1, Bool.false_eq_true, if_false, if_neg (show ¬ (z = 0 ∨ z = 1) by omega)]
            exact ev_some _
        · simp only [if_neg c0, Option.bind_some, Bool.false_eq_true, if_false, if_neg (show ¬ (z = 0 ∨ z = 1) by omega)]
          exact ev_some _
      · simp only [decide_eq_false c, Bool.false_eq_true, if_false, if_neg c]
        exact ih (i + 1) (by omega)
  exact main l.length 0 (by omega)
def knC (l : List Bool) : Int := if l.contains true then (if l.contains false then -1 else 1) else 0
theorem knC_one {l : List Bool} (h : l.length = 1) : 0 ≤ knC l := by
  obtain ⟨a, rfl⟩ := List.length_eq_one_iff.1 h
  cases a <;> decide
theorem spec_Known_c {n : Nat} {l : List Bool} (hn : n ≤ 12) (hl : l.length = 2 ^ n) : Ev (fun k => spec_Known.f k (n : Int) (ones l)) (knC l) := by
  have hp := pow12 hn
  have e := ev_ge _ (spec_Known_eq (n : Int) (ones l) (by rw [ones_size]; omega))
  unfold knownT at e
  rw [tok_ones hn hl, flags_ones, if_pos rfl] at e
  exact e
def chkR : List Bool → List Bool → Int → (List Int → Option Int) → List Int → Bool
  | [], l, v, _, _ => knC l == v
  | a :: r, l, v, F, vals => if 0 ≤ knC l then knC l == v else
    if a == (v == 0) then (if F vals = some 0 then chkR r (halfL l false) v F (vals ++ [0]) else if F vals = some 1 then chkR r (halfL l true) v F (vals ++ [1]) else false)
    else chkR r (halfL l false) v F (vals ++ [0]) && chkR r (halfL l true) v F (vals ++ [1])
theorem spec_chk_ev {ps : List S108} (hps : okP ps) (v : Int) : ∀ (r l : List Bool) (vals : List Int), r.length ≤ 12 → l.length = 2 ^ r.length → vals.length + r.length ≤ 12 →
    Ev (fun k => spec_l10Checks.f k r (r.length : Int) (ones l) v ps vals) (chkR r l v (firstV ps) vals) := by
  intro r
  induction r with
  | nil =>
    intro l vals _ hl _
    refine ev_succ ?_
    simp only [spec_l10Checks.f]
    refine ev_bind (spec_Known_c (n := 0) (by omega) hl) ?_
    simp only [if_pos (show knC l ≥ 0 from knC_one hl)]
    exact ev_some _
  | cons a r ih =>
    intro l vals hr hl hv
    have hr' : r.length ≤ 11 := by simpa using hr
    simp only [List.length_cons] at hl hv
    have hp := pow12 (n := r.length + 1) (by omega)
    refine ev_succ ?_
    simp only [spec_l10Checks.f, List.length_cons]
    refine ev_bind (spec_Known_c (n := r.length + 1) (by omega) hl) ?_
    unfold chkR
    by_cases c : 0 ≤ knC l
    · simp only [if_pos (show knC l ≥ 0 from c), if_pos c]
      exact ev_some _
    simp only [if_neg (show ¬ knC l ≥ 0 from c), if_neg c]
    have half : ∀ h : Bool, Ev (fun k => spec_Half.f k ((r.length + 1 : Nat) : Int) (ones l) (b01 h)) ((r.length : Int), ones (halfL l h), true) := by
      intro h
      have := ev_ge _ (spec_Half_eq ((r.length + 1 : Nat) : Int) (ones l) (b01 h) (by rw [ones_size]; omega))
      unfold halfT at this
      rw [tok_ones (by omega) hl, flags_ones, if_pos (by cases h <;> simp [b01] <;> omega), show (((r.length + 1 : Nat) : Int) - 1) = (r.length : Int) by omega, show (b01 h == 1) = h by cases h <;> rfl] at this
      exact this
    refine ev_bind (half false) ?_
    refine ev_bind (half true) ?_
    have hlo := halfL_len hl false
    have hhi := halfL_len hl true
    have e0 := ih (halfL l false) (vals ++ [0]) (by omega) hlo (by simp; omega)
    have e1 := ih (halfL l true) (vals ++ [1]) (by omega) hhi (by simp; omega)
    simp only [Option.bind_some, List.length_nil, Nat.zero_add, List.nil_append, if_pos (show vals.length < 17592186044416 by omega), if_pos (show 0 < ((r.length + 1 : Nat) : Int) by omega), if_pos (show 1 ≤ ((r.length + 1 : Nat) : Int) by omega), List.drop_succ_cons, List.drop_zero, show rdOf false (a :: r) 0 = a from rfl]
    by_cases ca : (a == (v == 0)) = true
    · simp only [if_pos ca]
      refine ev_bind (find10_ev hps vals) ?_
      by_cases f0 : firstV ps vals = some 0
      · rw [f0]
        simp only [pickV, if_pos (show (0 : Int) = 0 ∨ (0 : Int) = 1 from .inl rfl), if_true]
        exact ev_bind e0 (ev_some _)
      · by_cases f1 : firstV ps vals = some 1
        · rw [f1]
          simp only [pickV, if_pos (show (1 : Int) = 0 ∨ (1 : Int) = 1 from .inr rfl), if_true, if_neg (show ¬ (1 : Int) = 0 by decide), if_neg (show ¬ some (1 : Int) = some 0 by decide)]
          exact ev_bind e1 (ev_some _)
        · have hpv : pickV (firstV ps vals) = -1 := by
            cases hf : firstV ps vals with
            | none => rfl
            | some z =>
              rw [hf] at f0 f1
              simp only [pickV]
              rw [if_neg]
              rintro (rfl | rfl)
              · exact f0 rfl
              · exact f1 rfl
          rw [hpv]
          simp only [if_neg f0, if_neg f1, if_neg (show ¬ (-1 : Int) = 0 by decide), if_neg (show ¬ (-1 : Int) = 1 by decide)]
          exact ev_some _
    · simp only [if_neg ca]
      refine ev_bind e0 ?_
      cases chkR r (halfL l false) v (firstV ps) (vals ++ [0]) with
      | false => simp only [Bool.false_eq_true, if_false, Bool.false_and]; exact ev_some _
      | true => simp only [if_true, Bool.true_and]; exact ev_bind e1 (ev_some _)
theorem impl_chk_ev {ps : List S108} {R : List (ByteArray × Int)} (hR : mapOk R ps) {v : Int} (rr : List Bool) (hrr : rr.length ≤ 12) : ∀ (d : Nat) (l : List Bool) (vals : List Int), vals.length + d = rr.length → l.length = 2 ^ d → (∀ x ∈ vals, (Lit.int .i64 x).wf = true) →
    Ev (fun k => ckF k (rr.map fun a => a == (v == 0)) R v (d : Int) (ones l) vals) (chkR (rr.drop vals.length) l v (firstV ps) vals) := by
  intro d
  induction d with
  | zero =>
    intro l vals hv hl _
    refine ev_succ ?_
    simp only [ckF, impl_Table_known_eq, Option.bind_some]
    have hk := knC_one hl
    unfold knC at hk
    simp only [if_pos hk]
    rw [List.drop_of_length_le (by omega)]
    exact ev_some _
  | succ d ih =>
    intro l vals hv hl hw
    have hil : vals.length < rr.length := by omega
    have hd : rr.drop vals.length = rr.getD vals.length false :: rr.drop (vals.length + 1) := by rw [getD_lt rr _ _ hil, ← List.drop_eq_getElem_cons]
    refine ev_succ ?_
    simp only [ckF, impl_Table_known_eq, Option.bind_some]
    rw [hd]
    unfold chkR
    by_cases c : 0 ≤ knC l
    · have c' := c
      unfold knC at c'
      simp only [if_pos c', if_pos c]
      exact ev_some _
    have c' := c
    unfold knC at c'
    simp only [if_neg c', if_neg c, List.length_map, if_pos hil]
    have hrd : rdOf false (rr.map fun a => a == (v == 0)) (vals.length : Int) = (rr.getD vals.length false == (v == 0)) := by
      rw [rdOf_nat, List.getD_eq_getElem?_getD, List.getElem?_map, List.getElem?_eq_getElem hil, getD_lt rr _ _ hil]
      rfl
    have hcp : impl_copyInts.f vals = some vals := by
      unfold impl_copyInts.f
      rw [if_pos (by simp; omega), List.nil_append]
    have e0 := ih (halfL l false) (vals ++ [0]) (by simp; omega) (halfL_len hl false) (fun x hx => by
      rcases List.mem_append.1 hx with hx | hx
      · exact hw x hx
      · rw [List.mem_singleton.1 hx]; decide)
    have e1 := ih (halfL l true) (vals ++ [1]) (by simp; omega) (halfL_len hl true) (fun x hx => by
      rcases List.mem_append.1 hx with hx | hx
      · exact hw x hx
      · rw [List.mem_singleton.1 hx]; decide)
    rw [List.length_append, List.length_singleton] at e0 e1
    have hh : ∀ z : Int, impl_Table_half.f ((d + 1 : Nat) : Int) (ones l) z = some ((d : Int), ones (halfL l (z != 0))) := fun z => impl_half_eq d l (by omega) hl z
    simp only [hrd, hh, hcp, Option.bind_some, if_pos (show vals.length < 17592186044416 by omega)]
    cases ca : (rr.getD vals.length false == (v == 0)) with
    | false =>
      simp only [if_true, Bool.false_eq_true, if_false]
      refine ev_bind e0 ?_
      cases chkR (rr.drop (vals.length + 1)) (halfL l false) v (firstV ps) (vals ++ [0]) with
      | false => simp only [Bool.false_eq_true, if_false, Bool.false_and]; exact ev_some _
      | true => simp only [if_true, Bool.true_and]; exact e1
    | true =>
      simp only [Bool.true_eq_false, if_false, if_true]
      have hkl := keyL_len hw
      refine ev_bind (valsKey_ev vals hw (by omega)) ?_
      obtain ⟨m1, m2⟩ := hR vals
      simp only [byts_size, if_pos (show (keyL vals).length ≤ maxLen by unfold maxLen; omega), m1, m2]
      cases hf : firstV ps vals with
      | none =>
        simp only [Option.isSome_none, Bool.false_eq_true, false_and, if_false, reduceCtorEq]
        exact ev_some _
      | some z =>
        simp only [Option.isSome_some, true_and, Option.getD_some, Option.some.injEq]
        by_cases z0 : z = 0
        · subst z0
          simp only [true_or, if_true]
          exact e0
        · by_cases z1 : z = 1
          · subst z1
            simp only [or_true, if_true, if_neg (show ¬ (1 : Int) = 0 by decide)]
            exact e1
          · simp only [if_neg (show ¬ (z = 0 ∨ z = 1) from fun h => h.elim z0 z1), if_neg z0, if_neg z1]
            exact ev_some _
def chkT (r : List Bool) (N : Int) (s : ByteArray) (v : Int) (ps : List S108) : Bool := (tok N s && ((r.length : Int) == N)) && (decide (v = 0 ∨ v = 1) && (decide (ps.length ≤ 5000) && chkR r (flags s) v (firstV ps) []))
theorem spec_Checks_ev (r : List Bool) (N : Int) (s : ByteArray) (v : Int) {ps : List S108} (hs : s.size ≤ 1099511627776) (hps : okP ps) : Ev (fun k => spec_Checks.f k r N s v ps) (chkT r N s v ps) := by
  unfold spec_Checks.f spec_l08Ok.f chkT spec_l01In.f
  have et := ev_ge _ (spec_TableOk_eq N s hs)
  refine ev_bind (a := tok N s && ((r.length : Int) == N)) ?_ ?_
  · refine ev_bind et ?_
    cases tok N s <;> exact ev_some _
  cases hb : tok N s && ((r.length : Int) == N) with
  | false => simp only [Bool.false_eq_true, if_false, Bool.false_and]; exact ev_some _
  | true =>
    simp only [Bool.and_eq_true, beq_iff_eq] at hb
    obtain ⟨n, l, rfl, hn, hl, rfl⟩ := tok_form hb.1
    have hrn : r.length = n := by omega
    simp only [if_true, Bool.true_and, flags_ones]
    by_cases c0 : v ≥ 0
    · simp only [if_pos c0, Option.bind_some]
      by_cases c1 : v ≤ 1
      · simp only [decide_eq_true c1, if_true, decide_eq_true (show v = 0 ∨ v = 1 by omega), Bool.true_and]
        by_cases c2 : ps.length ≤ 5000
        · simp only [if_pos (show (ps.length : Int) ≤ 5000 by omega), decide_eq_true c2, Bool.true_and]
          have := spec_chk_ev hps v r l [] (by omega) (by rw [hrn]; exact hl) (by simp; omega)
          rw [hrn] at this
          exact ev_bind this (ev_some _)
        · simp only [if_neg (show ¬ (ps.length : Int) ≤ 5000 by omega), decide_eq_false c2, Bool.false_and]
          exact ev_some _
      · simp only [decide_eq_false c1, Bool.false_eq_true, if_false, decide_eq_false (show ¬ (v = 0 ∨ v = 1) by omega), Bool.false_and]
        exact ev_some _
    · simp only [if_neg c0, Option.bind_some, Bool.false_eq_true, if_false, decide_eq_false (show ¬ (v = 0 ∨ v = 1) by omega), Bool.false_and]
      exact ev_some _
theorem impl_Checks_ev (r : List Bool) (N : Int) (s : ByteArray) (v : Int) {ps : List S108} (hs : s.size ≤ 1099511627776) (hps : okP ps) : Ev (fun k => impl_Checks.f k r N s v ps) (chkT r N s v ps) := by
  unfold impl_Checks.f impl_rowed.f chkT
  have et := ev_ge _ (impl_TableOk_eq N s hs)
  refine ev_bind (a := tok N s && ((r.length : Int) == N)) ?_ ?_
  · refine ev_bind et ?_
    cases tok N s <;> exact ev_some _
  cases hb : tok N s && ((r.length : Int) == N) with
  | false => simp only [Bool.false_eq_true, if_false, Bool.false_and]; exact ev_some _
  | true =>
    simp only [Bool.and_eq_true, beq_iff_eq] at hb
    obtain ⟨n, l, rfl, hn, hl, rfl⟩ := tok_form hb.1
    have hrn : r.length = n := by omega
    simp only [if_true, Bool.true_and, flags_ones]
    by_cases c1 : v = 0 ∨ v = 1
    · simp only [if_pos c1, decide_eq_true c1, Bool.true_and]
      by_cases c2 : ps.length ≤ 5000
      · simp only [if_neg (show ¬ 5000 < ps.length by omega), decide_eq_true c2, Bool.true_and]
        have eo := ev_ge _ (impl_Owner_eq v r (by omega))
        unfold owner at eo
        rw [if_pos c1] at eo
        refine ev_bind eo ?_
        obtain ⟨R, eR, hR⟩ := pk_ev hps
        refine ev_bind eR ?_
        exact impl_chk_ev hR r (by omega) n l [] (by simp; omega) hl (fun x hx => by cases hx)
      · simp only [if_pos (show 5000 < ps.length by omega), decide_eq_false c2, Bool.false_and]
        exact ev_some _
    · simp only [if_neg c1, decide_eq_false c1, Bool.false_and]
      exact ev_some _
end Go.Proofs.Ytlpfmhikahlcoaa.Pure
set_option linter.unusedSimpArgs false
set_option linter.unusedVariables false
namespace Go.Proofs.Ytlpfmhikahlcoaa.Pure
open Go.RowKit Go.Proofs.Ytlpfmhikahlcoaa.G Go.Proofs.YtlpfmhikahlcoaaW.PrintWords Go.Proofs.YtlpfmhikahlcoaaW.PrintLast Go.Proofs.YtlpfmhikahlcoaaW.PrintMore
theorem eqPickS_ev (l : List S108) (hl : okP l) : Ev (fun k => laws_eqPickS.f k l l) true := by
  unfold laws_eqPickS.f
  simp only [if_true]
  have hlen := hl.1
  have main : ∀ i, i ≤ l.length → Ev (fun k => laws_eqPickS.l0 k l l (i : Int)) true := by
    refine ev_loop (fun k i => laws_eqPickS.l0 k l l (i : Int)) l.length _ (fun i hi e => ?_) ?_
    · have hmem : rd_T108 l (i : Int) ∈ l := by rw [rdP_nat, getD_lt l i _ hi]; exact List.getElem_mem _
      have h1 := (hl.2 _ hmem).1
      refine ev_succ ?_
      simp only [laws_eqPickS.l0, if_pos (show (i : Int) < (l.length : Int) by omega), if_pos (show 0 ≤ (i : Int) by omega), laws_eqPick.f, w64s i (show i < 4611686018427387904 by omega)]
      refine ev_bind (a := true) ?_ ?_
      · refine ev_bind (ev_ge _ (eqIntS_self _ (by omega))) ?_
        simp only [if_true]
        exact ev_some _
      · simp only [if_true]
        exact e
    · refine ev_succ ?_
      simp only [laws_eqPickS.l0, if_neg (show ¬ (l.length : Int) < (l.length : Int) by omega)]
      exact ev_some _
  exact main 0 (by omega)
def cvP (l : List S110) : List S108 := l.map fun x => ⟨x.f0, x.f1⟩
theorem cvP_length (l : List S110) : (cvP l).length = l.length := by simp [cvP]
theorem rdL_nat (L : List S110) (i : Nat) : rd_T110 L (i : Int) = L.getD i z110 := by unfold rd_T110; simp
theorem toPickS_ev (l : List S110) (hl : l.length ≤ 1048576) (hx : ∀ x ∈ l, x.f0.length ≤ 1048576) : Ev (fun k => laws_toPickS.f k l) (cvP l) := by
  unfold laws_toPickS.f
  simp only [if_pos (show 0 ≤ (l.length : Int) by omega), Int.toNat_natCast, if_pos (show l.length ≤ 8796093022208 by omega)]
  have main : ∀ i, i ≤ l.length → Ev (fun k => laws_toPickS.l0 k l ((cvP l).take i ++ (List.replicate l.length z108).drop i) (i : Int)) (cvP l) := by
    refine ev_loop (fun k i => laws_toPickS.l0 k l ((cvP l).take i ++ (List.replicate l.length z108).drop i) (i : Int)) l.length _ (fun i hi e => ?_) ?_
    · have hmem : rd_T110 l (i : Int) ∈ l := by rw [rdL_nat, getD_lt l i _ hi]; exact List.getElem_mem _
      have h1 := hx _ hmem
      have hc := cvP_length l
      refine ev_succ ?_
      simp only [laws_toPickS.l0, if_pos (show (i : Int) < (l.length : Int) by omega), if_pos (show 0 ≤ (i : Int) by omega), laws_toPick.f, Int.toNat_natCast, w64s i (show i < 4611686018427387904 by omega)]
      refine ev_bind (a := ((rd_T110 l (i : Int)).f0, (rd_T110 l (i : Int)).f1)) ?_ ?_
      · exact ev_bind (ev_ge _ (toIntS_eq _ (by omega))) (ev_some _)
      · simp only [if_pos (show (i : Int) < ((((cvP l).take i ++ (List.replicate l.length z108).drop i)).length : Int) by simp [hc]; omega)]
        rw [set_front (cvP l) (List.replicate l.length z108) i _ (by simp [hc]) (by simp; exact hi) (by
          unfold cvP
          rw [List.getElem?_map, List.getElem?_eq_getElem hi, rdL_nat, getD_lt l i _ hi]
          rfl)]
        exact e
    · refine ev_succ ?_
      simp only [laws_toPickS.l0, if_neg (show ¬ (l.length : Int) < (l.length : Int) by omega)]
      rw [List.take_of_length_le (by rw [cvP_length]; omega), List.drop_of_length_le (by simp), List.append_nil]
      exact ev_some _
  have := main 0 (by omega)
  simpa using this
theorem szPickS_ev (m : List S110) (x : Int) (hm : m.length ≤ maxLen) (hs : ∀ y ∈ m, y.f0.length ≤ maxLen) (h0 : 0 ≤ x) (h1 : x ≤ 1048576) :
    ∃ y, Ev (fun k => laws_szPickS.f k m x) y ∧ (0 ≤ y → m.length ≤ 1048576 ∧ ∀ y ∈ m, y.f0.length ≤ 1048576) := by
  unfold maxLen at hm hs
  by_cases hl : (m.length : Int) ≤ x
  · have h : ∀ d i, i + d = m.length → (∀ j, j < i → (rd_T110 m (j : Int)).f0.length ≤ 1048576) → ∀ z : Int, 0 ≤ z → z ≤ 1048576 → ∃ y, Ev (fun k => laws_szPickS.l0 k m z (i : Int)) y ∧ (0 ≤ y → ∀ j, j < m.length → (rd_T110 m (j : Int)).f0.length ≤ 1048576) := by
      intro d
      induction d with
      | zero =>
        intro i hi hj z hz0 hz1
        refine ⟨z, ev_succ ?_, fun _ j hj2 => hj j (by omega)⟩
        simp only [laws_szPickS.l0, if_neg (show ¬ (i : Int) < (m.length : Int) by omega)]
        exact ev_some _
      | succ d ih =>
        intro i hi hj z hz0 hz1
        have hmem : rd_T110 m (i : Int) ∈ m := by rw [rdL_nat, getD_lt m i _ (by omega)]; exact List.getElem_mem _
        have hsz := hs _ hmem
        have hw : wrap64 (z - ((rd_T110 m (i : Int)).f0.length : Int)) = z - (rd_T110 m (i : Int)).f0.length := w64 (by omega) (by omega)
        by_cases hb : z - ((rd_T110 m (i : Int)).f0.length : Int) < 0
        · refine ⟨-1, ev_succ ?_, fun h => absurd h (by decide)⟩
          simp only [laws_szPickS.l0, laws_szPick.f, laws_szIntS.f, if_pos (show (i : Int) < (m.length : Int) by omega), if_pos (show 0 ≤ (i : Int) by omega), hw, if_pos hb, Option.bind_some, if_pos (show (-1 : Int) < 0 by decide)]
          exact ev_some _
        · obtain ⟨y, hy, h2⟩ := ih (i + 1) (by omega) (fun j hj2 => by
            rcases Nat.lt_succ_iff_lt_or_eq.1 hj2 with hj2 | rfl
            · exact hj j hj2
            · omega) (z - (rd_T110 m (i : Int)).f0.length) (by omega) (by omega)
          refine ⟨y, ev_succ ?_, h2⟩
          simp only [laws_szPickS.l0, laws_szPick.f, laws_szIntS.f, if_pos (show (i : Int) < (m.length : Int) by omega), if_pos (show 0 ≤ (i : Int) by omega), hw, if_neg hb, Option.bind_some, w64s i (show i < 4611686018427387904 by omega)]
          exact hy
    obtain ⟨y, hy, h2⟩ := h m.length 0 (by omega) (fun j hj => by omega) (x - m.length) (by omega) (by omega)
    refine ⟨y, ev_eq (fun k => ?_) hy, fun h => ⟨by omega, fun z hz => ?_⟩⟩
    · unfold laws_szPickS.f
      rw [w64 (by omega) (by omega), if_neg (by omega)]
      rfl
    · obtain ⟨j, hj, rfl⟩ := List.getElem_of_mem hz
      have := h2 h j hj
      rw [rdL_nat, getD_lt m j _ hj] at this
      exact this
  · refine ⟨-1, ev_eq (f := fun _ => some (-1)) (fun k => ?_) (ev_some _), fun h => absurd h (by decide)⟩
    unfold laws_szPickS.f
    rw [w64 (by omega) (by omega), if_pos (by omega)]
end Go.Proofs.Ytlpfmhikahlcoaa.Pure
