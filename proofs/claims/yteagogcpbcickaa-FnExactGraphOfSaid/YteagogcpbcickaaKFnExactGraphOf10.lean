-- texts of this session, merged by a program of it (wip/gen/pack.py)
import Derived.Test.YteagogcpbcickaaKFnExactGraphOf1
import Derived.Test.YteagogcpbcickaaKFnExactGraphOf2
import Derived.Test.YteagogcpbcickaaKFnExactGraphOf5
import Derived.Test.YteagogcpbcickaaKFnExactGraphOf9
import Derived.Test.YteagogcpbcickaaKFnExactGraphOf4
import Derived.Test.YteagogcpbcickaaKFnExactGraphOf3
import Derived.Test.YteagogcpbcickaaKFnExactGraphOf6
import Derived.Test.YteagogcpbcickaaKFnExactGraphOf8
import Derived.Test.YteagogcpbcickaaKFnExactGraphOf7
import Derived.Laws.BitsLemmas
namespace Go.Proofs.Yteagogcpbcickaa.G
open Go.Proofs.Yteagogcpbcickaa.Sh Go.RowKit Go.Proofs.YteagogcpbcickaaW.PrintWords Go.Proofs.YteagogcpbcickaaW.PrintLast Go.Proofs.YteagogcpbcickaaW.PrintMore
attribute [local go_sem] max2_int min2_int max_two min_two max_three min_three max_four min_four   -- for this text's walks alone
set_option linter.unusedVariables false
set_option linter.unusedSimpArgs false
def spec_GraphOf.f (k : Nat) (a0_0 : Int) (a0_1 : ByteArray) : Option (Int × (List (S79)) × Int) := (spec_TableOk.f k a0_0 a0_1).bind fun t103 => (if t103 = true then ((spec_l07Table.f k a0_0 ([] : List (S79)) a0_0 a0_1 0).bind fun bt104 => (if bt104.2.2 < 0 then (some (0, ([] : List (S79)), (-1))) else (some (bt104.1, bt104.2.1, bt104.2.2)))) else (some (0, ([] : List (S79)), (-1))))
set_option maxHeartbeats 80000000 in
set_option maxRecDepth 100000 in
theorem spec_GraphOf.calls (k : Nat) (a0_0 : Int) (a0_1 : ByteArray) (r1 : Int) (r2 : List (S79)) (r3 : Int) (w : World) (h : spec_GraphOf.f k a0_0 a0_1 = some (r1, r2, r3)) :
  Calls Try.prog 38 #[.agg #[.int .i64 a0_0, .string a0_1]] w fun e w' => ∃ v1_ : Value, e = .returned (.tuple #[.agg #[.int .i64 r1, v1_], .int .i64 r3]) ∧ Kd.R k79 79 w' w.heap.size (fun _ => True) v1_ r2 ∧ Below w.heap.size w w' := by
 have hu36 := Try.underlying36; have hu29 := Try.underlying29; have HB := Aside0.mk (Below.refl w.heap.size w)
 have H : ((spec_TableOk.f k a0_0 a0_1).bind fun t103 => (if t103 = true then ((spec_l07Table.f k a0_0 ([] : List (S79)) a0_0 a0_1 0).bind fun bt104 => (if bt104.2.2 < 0 then (some (0, ([] : List (S79)), (-1))) else (some (bt104.1, bt104.2.1, bt104.2.2)))) else (some (0, ([] : List (S79)), (-1))))) = some (r1, r2, r3) := h
 clear h
 replace H := Option.bind_eq_some_iff.mp H
 obtain ⟨t103, A20, H⟩ := H
 replace H : (if t103 = true then ((spec_l07Table.f k a0_0 ([] : List (S79)) a0_0 a0_1 0).bind fun bt104 => (if bt104.2.2 < 0 then (some (0, ([] : List (S79)), (-1))) else (some (bt104.1, bt104.2.1, bt104.2.2)))) else (some (0, ([] : List (S79)), (-1)))) = some (r1, r2, r3) := H
 have A2 := Aside0.mk A20; clear A20
 by_cases c3 : t103 = true
 ·subst c3
  have H1 : ((spec_l07Table.f k a0_0 ([] : List (S79)) a0_0 a0_1 0).bind fun bt104 => (if bt104.2.2 < 0 then (some (0, ([] : List (S79)), (-1))) else (some (bt104.1, bt104.2.1, bt104.2.2)))) = some (r1, r2, r3) := by rw [if_pos rfl] at H; exact H
  clear H; have H := H1; clear H1
  replace H := Option.bind_eq_some_iff.mp H
  obtain ⟨⟨t104, t105, t108⟩, A40, H⟩ := H
  replace H : (if t108 < 0 then (some (0, ([] : List (S79)), (-1))) else (some (t104, t105, t108))) = some (r1, r2, r3) := H
  have A4 := Aside0.mk A40; clear A40
  by_cases c5 : t108 < 0
  ·rw [if_pos c5] at H
   have c5b0 : decide (t108 < 0) = true := decide_eq_true c5; clear c5
   simp only [Option.some.injEq, Prod.mk.injEq] at H
   obtain ⟨rfl, rfl, rfl⟩ := H
   go_enter Try.func38, Try.ntmps38
   go_wp2_with (first | ((with_reducible refine gate_dst (N := 1) rfl ?_); refine box_event ?hg (N := 1) ?hd (cs := #[.int .i64 a0_0, .string a0_1]) (t := 36) ?hr ?_; (case hd => rfl); (case hg => rfl); (case hr => first | (go_simp; done) | (go_simp; rfl)); intro gb101 hg w6 hbox hb; have n0_ := bs0 HB hb; have n1_ := Aside0.mk (hbox); have n2_ := bz0 hg HB; have n3_ := bz0 hg HB; clear HB; have HB := n0_; have BK101 := n1_; have GW101 := n2_; have GE101 := n3_; clear n0_ n1_ n2_ n3_; clear hb hbox hg) | ((with_reducible refine gate_dst (N := 2) rfl ?_); refine box_event ?hg (N := 2) ?hd (cs := #[.int .i64 0, .slice none 0 0]) (t := 29) ?hr ?_; (case hd => rfl); (case hg => rfl); (case hr => first | (go_simp; done) | (go_simp; rfl)); intro gb102 hg w7 hbox hb; have n0_ := bb BK101 hb; have n1_ := bs1 HB hb GE101; have n2_ := Aside0.mk (hbox); have n3_ := bz1 hg HB GE101; have n4_ := bz1 hg HB GE101; have n5_ := nl hg BK101; have n6_ := ng hg BK101; clear BK101; clear HB; have BK101 := n0_; have HB := n1_; have BK102 := n2_; have GW102 := n3_; have GE102 := n4_; have NB101_102 := n5_; have NB102_101 := n6_; clear n0_ n1_ n2_ n3_ n4_ n5_ n6_; clear hb hbox hg; have hnb8 := NB101_102.out; have hnc8 := NB102_101.out; have hcz9_0 : w7.cell? ⟨gb101, 0, none⟩ = some (.int .i64 a0_0) := (blk_cell BK101.out 0).trans rfl; have hcz9_1 : w7.cell? ⟨gb101, 1, none⟩ = some (.string a0_1) := (blk_cell BK101.out 1).trans rfl; have hfz9_0 := blk_frozen BK101.out 0; have hfz9_1 := blk_frozen BK101.out 1) | ((with_reducible refine gate_callee (f := 43) rfl ?_); refine goesL_ (some 7) rfl rfl Try.func43 (by kernel_rfl) rfl #[.agg #[.int .i64 a0_0, .string a0_1]] rfl (by (try simp only [List.map_toArray, List.map_cons, List.map_nil]); first | done | rfl | (simp only [List.length_drop, List.length_take]; rfl)) ?_; (with_reducible refine (spec_TableOk.calls k a0_0 a0_1 true _ A2.out).mono ?_); rintro e w10 ⟨rfl, hb⟩; refine ⟨_, rfl, ?_⟩; have n0_ := bb BK101 hb; have n1_ := bb BK102 hb; have n2_ := bs2 HB hb GE101 GE102; clear BK101; clear BK102; clear HB; have BK101 := n0_; have BK102 := n1_; have HB := n2_; clear n0_ n1_ n2_; (try clear hb); (try clear hb2); (try clear hk); (try clear hi); have hcz11_0 : w10.cell? ⟨gb101, 0, none⟩ = some (.int .i64 a0_0) := (blk_cell BK101.out 0).trans rfl; have hcz11_1 : w10.cell? ⟨gb101, 1, none⟩ = some (.string a0_1) := (blk_cell BK101.out 1).trans rfl; have hfz11_0 := blk_frozen BK101.out 0; have hfz11_1 := blk_frozen BK101.out 1) | ((with_reducible refine gate_callee (f := 83) rfl ?_); refine goesL_ (some 15) rfl rfl Try.func83 (by kernel_rfl) rfl #[.agg #[.int .i64 a0_0, .slice none 0 0], .agg #[.int .i64 a0_0, .string a0_1], .int .i64 0] rfl (by (try simp only [List.map_toArray, List.map_cons, List.map_nil]); first | done | rfl | (simp only [List.length_drop, List.length_take]; rfl)) ?_; (refine (spec_l07Table.calls k a0_0 (fun k_ => some k_ = (.slice none 0 0 : Value).ownBlock) (.slice none 0 0) ([] : List (S79)) a0_0 a0_1 0 t104 t105 t108 w _ ?side1 ?side2 A4.out).mono ?_); (case side1 => repeat (first | (with_reducible first | exact HB.out | apply below_alloc | apply pw_below_drewN | apply below_drew1 | refine below_set ?_ GE101.out | refine below_set ?_ GE102.out) | exact HB.out)); (case side2 => exact Kd.R_nil _ _ _ _ _); rintro e w12 ⟨v106, rfl, ho0, hb, hkp⟩; refine ⟨_, rfl, ?_⟩; have n0_ := Aside0.mk (blk_kept (dr BK101) hkp (fun hs_ => (fun e_ => by simp [Value.ownBlock] at e_) hs_)); have n1_ := Aside0.mk (blk_kept (dr BK102) hkp (fun hs_ => (fun e_ => by simp [Value.ownBlock] at e_) hs_)); have n2_ := Aside0.mk (Kd.R_mono (ok' := fun k_ => True) ho0 (fun k_ hk_ => trivial)); have n3_ := Aside0.mk (hb); clear BK101; clear BK102; clear HB; have BK101 := n0_; have BK102 := n1_; have HO107 := n2_; have HB := n3_; clear n0_ n1_ n2_ n3_; (try clear hb); (try clear hkp); (try clear ho0)) | ((with_reducible refine gate_dst (N := 4) rfl ?_); refine box_event ?hg (N := 4) ?hd (cs := #[.int .i64 0, .slice none 0 0]) (t := 29) ?hr ?_; (case hd => rfl); (case hg => rfl); (case hr => first | (go_simp; done) | (go_simp; rfl)); intro gb109 hg w13 hbox hb; have n0_ := rb HO107 hb; have n1_ := bb BK101 hb; have n2_ := bb BK102 hb; have n3_ := bs2 HB hb GE101 GE102; have n4_ := Aside0.mk (hbox); have n5_ := bz2 hg HB GE101 GE102; have n6_ := bz2 hg HB GE101 GE102; have n7_ := nl hg BK101; have n8_ := ng hg BK101; have n9_ := nl hg BK102; have n10_ := ng hg BK102; clear HO107; clear BK101; clear BK102; clear HB; have HO107 := n0_; have BK101 := n1_; have BK102 := n2_; have HB := n3_; have BK109 := n4_; have GW109 := n5_; have GE109 := n6_; have NB101_109 := n7_; have NB109_101 := n8_; have NB102_109 := n9_; have NB109_102 := n10_; clear n0_ n1_ n2_ n3_ n4_ n5_ n6_ n7_ n8_ n9_ n10_; clear hb hbox hg; have hnb14 := NB109_101.out; have hnc14 := NB101_109.out; have hnb15 := NB109_102.out; have hnc15 := NB102_109.out; have hcz16_0 : w13.cell? ⟨gb109, 0, none⟩ = some (.int .i64 0) := (blk_cell BK109.out 0).trans rfl; have hcz16_1 : w13.cell? ⟨gb109, 1, none⟩ = some (.slice none 0 0) := (blk_cell BK109.out 1).trans rfl; have hfz16_0 := blk_frozen BK109.out 0; have hfz16_1 := blk_frozen BK109.out 1; obtain ⟨Ao17, co17, eo17⟩ := Kd.R_slice HO107.out; subst eo17; have hcz18_0 : w13.cell? ⟨gb102, 0, none⟩ = some (.int .i64 0) := (blk_cell BK102.out 0).trans rfl; have hcz18_1 : w13.cell? ⟨gb102, 1, none⟩ = some (.slice none 0 0) := (blk_cell BK102.out 1).trans rfl; have hfz18_0 := blk_frozen BK102.out 0; have hfz18_1 := blk_frozen BK102.out 1))
   refine bodyPost_ret (results_ct rfl _ _ gb102 29 #[.int .i64 0, .slice none 0 0] (0, 0) _ rfl (by (with_reducible repeat (first | refine blk_drewN ?_ _ | refine blk_drew ?_ | refine blk_alloc ?_ _)); refine blk_put (cs := #[.int .i64 0, .slice none 0 0]) ?_ 1 _ rfl; (with_reducible repeat (first | refine blk_drewN ?_ _ | refine blk_drew ?_ | refine blk_alloc ?_ _)); refine blk_put (cs := #[.int .i64 0, .slice none 0 0]) ?_ 0 _ rfl; (with_reducible repeat (first | refine blk_drewN ?_ _ | refine blk_drew ?_ | refine blk_alloc ?_ _)); refine blk_far ?_ NB102_109.out _; (with_reducible repeat (first | refine blk_drewN ?_ _ | refine blk_drew ?_ | refine blk_alloc ?_ _)); refine blk_far ?_ NB102_109.out _; (with_reducible repeat (first | refine blk_drewN ?_ _ | refine blk_drew ?_ | refine blk_alloc ?_ _)); exact BK102.out) Try.underlying29 rfl (by kernel_rfl)) rfl ?_
   exact ⟨_, by first | rfl | (simp [errW_none, errW_some] <;> rfl) | (simp [*, errW_none, errW_some] <;> rfl), by first | exact Kd.R_nil _ _ _ _ _ | exact Kd.N_nil _ _ _ _ _ | exact Kd.V_nil _ _ _ _ _ | exact Kd.Q_nil _ _ _ _ _ | exact Kd.S_nil _ _ _ _ _, by repeat (first | (with_reducible first | exact HB.out | apply below_alloc | apply pw_below_drewN | apply below_drew1 | refine below_set ?_ GE101.out | refine below_set ?_ GE102.out | refine below_set ?_ GE109.out) | exact HB.out)⟩
  ·rw [if_neg c5] at H
   have c5b0 : decide (t108 < 0) = false := decide_eq_false c5; clear c5
   simp only [Option.some.injEq, Prod.mk.injEq] at H
   obtain ⟨rfl, rfl, rfl⟩ := H
   go_enter Try.func38, Try.ntmps38
   go_wp2_with (first | ((with_reducible refine gate_dst (N := 1) rfl ?_); refine box_event ?hg (N := 1) ?hd (cs := #[.int .i64 a0_0, .string a0_1]) (t := 36) ?hr ?_; (case hd => rfl); (case hg => rfl); (case hr => first | (go_simp; done) | (go_simp; rfl)); intro gb101 hg w19 hbox hb; have n0_ := bs0 HB hb; have n1_ := Aside0.mk (hbox); have n2_ := bz0 hg HB; have n3_ := bz0 hg HB; clear HB; have HB := n0_; have BK101 := n1_; have GW101 := n2_; have GE101 := n3_; clear n0_ n1_ n2_ n3_; clear hb hbox hg) | ((with_reducible refine gate_dst (N := 2) rfl ?_); refine box_event ?hg (N := 2) ?hd (cs := #[.int .i64 0, .slice none 0 0]) (t := 29) ?hr ?_; (case hd => rfl); (case hg => rfl); (case hr => first | (go_simp; done) | (go_simp; rfl)); intro gb102 hg w20 hbox hb; have n0_ := bb BK101 hb; have n1_ := bs1 HB hb GE101; have n2_ := Aside0.mk (hbox); have n3_ := bz1 hg HB GE101; have n4_ := bz1 hg HB GE101; have n5_ := nl hg BK101; have n6_ := ng hg BK101; clear BK101; clear HB; have BK101 := n0_; have HB := n1_; have BK102 := n2_; have GW102 := n3_; have GE102 := n4_; have NB101_102 := n5_; have NB102_101 := n6_; clear n0_ n1_ n2_ n3_ n4_ n5_ n6_; clear hb hbox hg; have hnb21 := NB101_102.out; have hnc21 := NB102_101.out; have hcz22_0 : w20.cell? ⟨gb101, 0, none⟩ = some (.int .i64 a0_0) := (blk_cell BK101.out 0).trans rfl; have hcz22_1 : w20.cell? ⟨gb101, 1, none⟩ = some (.string a0_1) := (blk_cell BK101.out 1).trans rfl; have hfz22_0 := blk_frozen BK101.out 0; have hfz22_1 := blk_frozen BK101.out 1) | ((with_reducible refine gate_callee (f := 43) rfl ?_); refine goesL_ (some 7) rfl rfl Try.func43 (by kernel_rfl) rfl #[.agg #[.int .i64 a0_0, .string a0_1]] rfl (by (try simp only [List.map_toArray, List.map_cons, List.map_nil]); first | done | rfl | (simp only [List.length_drop, List.length_take]; rfl)) ?_; (with_reducible refine (spec_TableOk.calls k a0_0 a0_1 true _ A2.out).mono ?_); rintro e w23 ⟨rfl, hb⟩; refine ⟨_, rfl, ?_⟩; have n0_ := bb BK101 hb; have n1_ := bb BK102 hb; have n2_ := bs2 HB hb GE101 GE102; clear BK101; clear BK102; clear HB; have BK101 := n0_; have BK102 := n1_; have HB := n2_; clear n0_ n1_ n2_; (try clear hb); (try clear hb2); (try clear hk); (try clear hi); have hcz24_0 : w23.cell? ⟨gb101, 0, none⟩ = some (.int .i64 a0_0) := (blk_cell BK101.out 0).trans rfl; have hcz24_1 : w23.cell? ⟨gb101, 1, none⟩ = some (.string a0_1) := (blk_cell BK101.out 1).trans rfl; have hfz24_0 := blk_frozen BK101.out 0; have hfz24_1 := blk_frozen BK101.out 1) | ((with_reducible refine gate_callee (f := 83) rfl ?_); refine goesL_ (some 15) rfl rfl Try.func83 (by kernel_rfl) rfl #[.agg #[.int .i64 a0_0, .slice none 0 0], .agg #[.int .i64 a0_0, .string a0_1], .int .i64 0] rfl (by (try simp only [List.map_toArray, List.map_cons, List.map_nil]); first | done | rfl | (simp only [List.length_drop, List.length_take]; rfl)) ?_; (refine (spec_l07Table.calls k a0_0 (fun k_ => some k_ = (.slice none 0 0 : Value).ownBlock) (.slice none 0 0) ([] : List (S79)) a0_0 a0_1 0 t104 t105 t108 w _ ?side1 ?side2 A4.out).mono ?_); (case side1 => repeat (first | (with_reducible first | exact HB.out | apply below_alloc | apply pw_below_drewN | apply below_drew1 | refine below_set ?_ GE101.out | refine below_set ?_ GE102.out) | exact HB.out)); (case side2 => exact Kd.R_nil _ _ _ _ _); rintro e w25 ⟨v106, rfl, ho0, hb, hkp⟩; refine ⟨_, rfl, ?_⟩; have n0_ := Aside0.mk (blk_kept (dr BK101) hkp (fun hs_ => (fun e_ => by simp [Value.ownBlock] at e_) hs_)); have n1_ := Aside0.mk (blk_kept (dr BK102) hkp (fun hs_ => (fun e_ => by simp [Value.ownBlock] at e_) hs_)); have n2_ := Aside0.mk (Kd.R_mono (ok' := fun k_ => True) ho0 (fun k_ hk_ => trivial)); have n3_ := Aside0.mk (hb); clear BK101; clear BK102; clear HB; have BK101 := n0_; have BK102 := n1_; have HO107 := n2_; have HB := n3_; clear n0_ n1_ n2_ n3_; (try clear hb); (try clear hkp); (try clear ho0)) | ((with_reducible refine gate_dst (N := 4) rfl ?_); refine box_event ?hg (N := 4) ?hd (cs := #[.int .i64 0, .slice none 0 0]) (t := 29) ?hr ?_; (case hd => rfl); (case hg => rfl); (case hr => first | (go_simp; done) | (go_simp; rfl)); intro gb109 hg w26 hbox hb; have n0_ := rb HO107 hb; have n1_ := bb BK101 hb; have n2_ := bb BK102 hb; have n3_ := bs2 HB hb GE101 GE102; have n4_ := Aside0.mk (hbox); have n5_ := bz2 hg HB GE101 GE102; have n6_ := bz2 hg HB GE101 GE102; have n7_ := nl hg BK101; have n8_ := ng hg BK101; have n9_ := nl hg BK102; have n10_ := ng hg BK102; clear HO107; clear BK101; clear BK102; clear HB; have HO107 := n0_; have BK101 := n1_; have BK102 := n2_; have HB := n3_; have BK109 := n4_; have GW109 := n5_; have GE109 := n6_; have NB101_109 := n7_; have NB109_101 := n8_; have NB102_109 := n9_; have NB109_102 := n10_; clear n0_ n1_ n2_ n3_ n4_ n5_ n6_ n7_ n8_ n9_ n10_; clear hb hbox hg; have hnb27 := NB109_101.out; have hnc27 := NB101_109.out; have hnb28 := NB109_102.out; have hnc28 := NB102_109.out; have hcz29_0 : w26.cell? ⟨gb109, 0, none⟩ = some (.int .i64 0) := (blk_cell BK109.out 0).trans rfl; have hcz29_1 : w26.cell? ⟨gb109, 1, none⟩ = some (.slice none 0 0) := (blk_cell BK109.out 1).trans rfl; have hfz29_0 := blk_frozen BK109.out 0; have hfz29_1 := blk_frozen BK109.out 1; obtain ⟨Ao30, co30, eo30⟩ := Kd.R_slice HO107.out; subst eo30; have hcz31_0 : w26.cell? ⟨gb102, 0, none⟩ = some (.int .i64 0) := (blk_cell BK102.out 0).trans rfl; have hcz31_1 : w26.cell? ⟨gb102, 1, none⟩ = some (.slice none 0 0) := (blk_cell BK102.out 1).trans rfl; have hfz31_0 := blk_frozen BK102.out 0; have hfz31_1 := blk_frozen BK102.out 1))
   refine bodyPost_ret (results_ct rfl _ _ gb102 29 #[.int .i64 t104, .slice Ao30 t105.length co30] (0, 0) _ rfl (by (with_reducible repeat (first | refine blk_drewN ?_ _ | refine blk_drew ?_ | refine blk_alloc ?_ _)); refine blk_put (cs := #[.int .i64 t104, .slice none 0 0]) ?_ 1 _ rfl; (with_reducible repeat (first | refine blk_drewN ?_ _ | refine blk_drew ?_ | refine blk_alloc ?_ _)); refine blk_put (cs := #[.int .i64 0, .slice none 0 0]) ?_ 0 _ rfl; (with_reducible repeat (first | refine blk_drewN ?_ _ | refine blk_drew ?_ | refine blk_alloc ?_ _)); refine blk_far ?_ NB102_109.out _; (with_reducible repeat (first | refine blk_drewN ?_ _ | refine blk_drew ?_ | refine blk_alloc ?_ _)); refine blk_far ?_ NB102_109.out _; (with_reducible repeat (first | refine blk_drewN ?_ _ | refine blk_drew ?_ | refine blk_alloc ?_ _)); exact BK102.out) Try.underlying29 rfl (by kernel_rfl)) rfl ?_
   exact ⟨_, by first | rfl | (simp [errW_none, errW_some] <;> rfl) | (simp [*, errW_none, errW_some] <;> rfl), by (with_reducible repeat (first | apply Kd.R_alloc | apply Kd.R_drewN | apply Kd.R_drew)); exact Kd.R_mono (Kd.R_far (p := ⟨gb102, 1, none⟩) (Kd.R_far (p := ⟨gb102, 0, none⟩) (Kd.R_far (p := ⟨gb109, 1, none⟩) (Kd.R_far (p := ⟨gb109, 0, none⟩) (Kd.R_types (Kd.R_types HO107.out BK109.out (by decide)) BK102.out (by decide)) (fun _ hk => hk.1.2) (.int .i64 t104)) (fun _ hk => hk.1.2) (.slice Ao30 t105.length co30)) (fun _ hk => hk.2) (.int .i64 t104)) (fun _ hk => hk.2) (.slice Ao30 t105.length co30)) (fun _ hk => trivial), by repeat (first | (with_reducible first | exact HB.out | apply below_alloc | apply pw_below_drewN | apply below_drew1 | refine below_set ?_ GE101.out | refine below_set ?_ GE102.out | refine below_set ?_ GE109.out) | exact HB.out)⟩
 ·replace c3 := Bool.eq_false_iff.mpr c3
  subst c3
  have H1 : (some (0, ([] : List (S79)), (-1))) = some (r1, r2, r3) := by rw [if_neg (show ¬ (false = true) by decide)] at H; exact H
  clear H; have H := H1; clear H1
  simp only [Option.some.injEq, Prod.mk.injEq] at H
  obtain ⟨rfl, rfl, rfl⟩ := H
  go_enter Try.func38, Try.ntmps38
  go_wp2_with (first | ((with_reducible refine gate_dst (N := 1) rfl ?_); refine box_event ?hg (N := 1) ?hd (cs := #[.int .i64 a0_0, .string a0_1]) (t := 36) ?hr ?_; (case hd => rfl); (case hg => rfl); (case hr => first | (go_simp; done) | (go_simp; rfl)); intro gb101 hg w32 hbox hb; have n0_ := bs0 HB hb; have n1_ := Aside0.mk (hbox); have n2_ := bz0 hg HB; have n3_ := bz0 hg HB; clear HB; have HB := n0_; have BK101 := n1_; have GW101 := n2_; have GE101 := n3_; clear n0_ n1_ n2_ n3_; clear hb hbox hg) | ((with_reducible refine gate_dst (N := 2) rfl ?_); refine box_event ?hg (N := 2) ?hd (cs := #[.int .i64 0, .slice none 0 0]) (t := 29) ?hr ?_; (case hd => rfl); (case hg => rfl); (case hr => first | (go_simp; done) | (go_simp; rfl)); intro gb102 hg w33 hbox hb; have n0_ := bb BK101 hb; have n1_ := bs1 HB hb GE101; have n2_ := Aside0.mk (hbox); have n3_ := bz1 hg HB GE101; have n4_ := bz1 hg HB GE101; have n5_ := nl hg BK101; have n6_ := ng hg BK101; clear BK101; clear HB; have BK101 := n0_; have HB := n1_; have BK102 := n2_; have GW102 := n3_; have GE102 := n4_; have NB101_102 := n5_; have NB102_101 := n6_; clear n0_ n1_ n2_ n3_ n4_ n5_ n6_; clear hb hbox hg; have hnb34 := NB101_102.out; have hnc34 := NB102_101.out; have hcz35_0 : w33.cell? ⟨gb101, 0, none⟩ = some (.int .i64 a0_0) := (blk_cell BK101.out 0).trans rfl; have hcz35_1 : w33.cell? ⟨gb101, 1, none⟩ = some (.string a0_1) := (blk_cell BK101.out 1).trans rfl; have hfz35_0 := blk_frozen BK101.out 0; have hfz35_1 := blk_frozen BK101.out 1) | ((with_reducible refine gate_callee (f := 43) rfl ?_); refine goesL_ (some 7) rfl rfl Try.func43 (by kernel_rfl) rfl #[.agg #[.int .i64 a0_0, .string a0_1]] rfl (by (try simp only [List.map_toArray, List.map_cons, List.map_nil]); first | done | rfl | (simp only [List.length_drop, List.length_take]; rfl)) ?_; (with_reducible refine (spec_TableOk.calls k a0_0 a0_1 false _ A2.out).mono ?_); rintro e w36 ⟨rfl, hb⟩; refine ⟨_, rfl, ?_⟩; have n0_ := bb BK101 hb; have n1_ := bb BK102 hb; have n2_ := bs2 HB hb GE101 GE102; clear BK101; clear BK102; clear HB; have BK101 := n0_; have BK102 := n1_; have HB := n2_; clear n0_ n1_ n2_; (try clear hb); (try clear hb2); (try clear hk); (try clear hi); have hcz37_0 : w36.cell? ⟨gb102, 0, none⟩ = some (.int .i64 0) := (blk_cell BK102.out 0).trans rfl; have hcz37_1 : w36.cell? ⟨gb102, 1, none⟩ = some (.slice none 0 0) := (blk_cell BK102.out 1).trans rfl; have hfz37_0 := blk_frozen BK102.out 0; have hfz37_1 := blk_frozen BK102.out 1))
  refine bodyPost_ret (results_ct rfl _ _ gb102 29 #[.int .i64 0, .slice none 0 0] (0, 0) _ rfl (by (with_reducible repeat (first | refine blk_drewN ?_ _ | refine blk_drew ?_ | refine blk_alloc ?_ _)); exact bp2 BK102.out) Try.underlying29 rfl (by kernel_rfl)) rfl ?_
  exact ⟨_, by first | rfl | (simp [errW_none, errW_some] <;> rfl) | (simp [*, errW_none, errW_some] <;> rfl), by first | exact Kd.R_nil _ _ _ _ _ | exact Kd.N_nil _ _ _ _ _ | exact Kd.V_nil _ _ _ _ _ | exact Kd.Q_nil _ _ _ _ _ | exact Kd.S_nil _ _ _ _ _, by repeat (first | (with_reducible first | exact HB.out | apply below_alloc | apply pw_below_drewN | apply below_drew1 | refine below_set ?_ GE101.out | refine below_set ?_ GE102.out) | exact HB.out)⟩
end Go.Proofs.Yteagogcpbcickaa.G
namespace Go.Proofs.Yteagogcpbcickaa.G
open Go.Proofs.Yteagogcpbcickaa.Sh Go.RowKit Go.Proofs.YteagogcpbcickaaW.PrintWords Go.Proofs.YteagogcpbcickaaW.PrintLast Go.Proofs.YteagogcpbcickaaW.PrintMore
attribute [local go_sem] max2_int min2_int max_two min_two max_three min_three max_four min_four   -- for this text's walks alone
set_option linter.unusedVariables false
set_option linter.unusedSimpArgs false
mutual
def laws_FnExactGraphOf.j0 : Nat → Int → Bool → Int → ByteArray → Int → List (S79) → Int → List (S79) → Option (Bool)
  | 0, _, _, _, _, _, _, _, _ => none
  | k + 1, x5, x37, x102000, x102001, x111000, x111001, x119000, x119001 => if x37 = true then (some false) else ((laws_markGraph.f k x119000 x119001 1).bind fun bt120 => ((laws_heldGraph.f k x119000 bt120.2 1).bind fun t122 => (if t122 < 0 then (some false) else (if t122 = bt120.1 then ((laws_toTable.f x102000 x102001).bind fun bt123 => ((impl_GraphOf.f k bt123.1 bt123.2).bind fun bt125 => ((laws_eqGraph.f k bt125.1 bt125.2.1 x111000 x111001).bind fun t131 => (if t131 = true then (laws_FnExactGraphOf.j1 k bt120.1 (bt125.2.2 != x5) x119000 bt120.2) else (laws_FnExactGraphOf.j1 k bt120.1 true x119000 bt120.2))))) else (some false)))))
def laws_FnExactGraphOf.j1 : Nat → Int → Bool → Int → List (S79) → Option (Bool)
  | 0, _, _, _, _ => none
  | k + 1, x8, x63, x119000, x119001 => if x63 = true then (some false) else ((laws_heldGraph.f k x119000 x119001 1).bind fun t132 => (if t132 < 0 then (some false) else (if t132 = x8 then (some true) else (some false))))
end
def laws_FnExactGraphOf.f (k : Nat) (a0_0 : Int) (a0_1 : ByteArray) : Option (Bool) := (laws_szTable.f a0_0 a0_1 1048576).bind fun t102 => (if t102 < 0 then (some true) else ((laws_toTable.f a0_0 a0_1).bind fun bt103 => ((spec_GraphOf.f k bt103.1 bt103.2).bind fun bt105 => ((laws_toTable.f a0_0 a0_1).bind fun bt111 => ((impl_GraphOf.f k bt111.1 bt111.2).bind fun bt113 => ((laws_eqGraph.f k bt113.1 bt113.2.1 bt105.1 bt105.2.1).bind fun t119 => (if t119 = true then (laws_FnExactGraphOf.j0 k bt105.2.2 (bt113.2.2 != bt105.2.2) a0_0 a0_1 bt105.1 bt105.2.1 bt113.1 bt113.2.1) else (laws_FnExactGraphOf.j0 k bt105.2.2 true a0_0 a0_1 bt105.1 bt105.2.1 bt113.1 bt113.2.1))))))))
set_option maxHeartbeats 80000000 in
set_option maxRecDepth 100000 in
theorem laws_FnExactGraphOf.calls (k : Nat) (a0_0 : Int) (a0_1 : ByteArray) (r : Bool) (w : World) (ht_ : r = true) (h : laws_FnExactGraphOf.f k a0_0 a0_1 = some r) :
  Calls Try.prog 10 #[.agg #[.int .i64 a0_0, .string a0_1]] w fun e w' => e = .returned (.bool r) ∧ Below w.heap.size w w' := by
 have hu50 := Try.underlying50; have hu29 := Try.underlying29; have HT := Aside0.mk ht_; clear ht_; have HB := Aside0.mk (Below.refl w.heap.size w)
 have H : ((laws_szTable.f a0_0 a0_1 1048576).bind fun t102 => (if t102 < 0 then (some true) else ((laws_toTable.f a0_0 a0_1).bind fun bt103 => ((spec_GraphOf.f k bt103.1 bt103.2).bind fun bt105 => ((laws_toTable.f a0_0 a0_1).bind fun bt111 => ((impl_GraphOf.f k bt111.1 bt111.2).bind fun bt113 => ((laws_eqGraph.f k bt113.1 bt113.2.1 bt105.1 bt105.2.1).bind fun t119 => (if t119 = true then (laws_FnExactGraphOf.j0 k bt105.2.2 (bt113.2.2 != bt105.2.2) a0_0 a0_1 bt105.1 bt105.2.1 bt113.1 bt113.2.1) else (laws_FnExactGraphOf.j0 k bt105.2.2 true a0_0 a0_1 bt105.1 bt105.2.1 bt113.1 bt113.2.1))))))))) = some r := h
 clear h
 replace H := Option.bind_eq_some_iff.mp H
 obtain ⟨t102, A20, H⟩ := H
 replace H : (if t102 < 0 then (some true) else ((laws_toTable.f a0_0 a0_1).bind fun bt103 => ((spec_GraphOf.f k bt103.1 bt103.2).bind fun bt105 => ((laws_toTable.f a0_0 a0_1).bind fun bt111 => ((impl_GraphOf.f k bt111.1 bt111.2).bind fun bt113 => ((laws_eqGraph.f k bt113.1 bt113.2.1 bt105.1 bt105.2.1).bind fun t119 => (if t119 = true then (laws_FnExactGraphOf.j0 k bt105.2.2 (bt113.2.2 != bt105.2.2) a0_0 a0_1 bt105.1 bt105.2.1 bt113.1 bt113.2.1) else (laws_FnExactGraphOf.j0 k bt105.2.2 true a0_0 a0_1 bt105.1 bt105.2.1 bt113.1 bt113.2.1)))))))) = some r := H
 have A2 := Aside0.mk A20; clear A20
 by_cases c3 : t102 < 0
 ·rw [if_pos c3] at H
  have c3b0 : decide (t102 < 0) = true := decide_eq_true c3; clear c3
  obtain rfl := Option.some.inj H
  go_enter Try.func10, Try.ntmps10
  go_wp2_with (first | ((with_reducible refine gate_dst (N := 1) rfl ?_); refine box_event ?hg (N := 1) ?hd (cs := #[.int .i64 a0_0, .string a0_1]) (t := 50) ?hr ?_; (case hd => rfl); (case hg => rfl); (case hr => first | (go_simp; done) | (go_simp; rfl)); intro gb101 hg w4 hbox hb; have n0_ := bs0 HB hb; have n1_ := Aside0.mk (hbox); have n2_ := bz0 hg HB; have n3_ := bz0 hg HB; clear HB; have HB := n0_; have BK101 := n1_; have GW101 := n2_; have GE101 := n3_; clear n0_ n1_ n2_ n3_; clear hb hbox hg; have hcz5_0 : w4.cell? ⟨gb101, 0, none⟩ = some (.int .i64 a0_0) := (blk_cell BK101.out 0).trans rfl; have hcz5_1 : w4.cell? ⟨gb101, 1, none⟩ = some (.string a0_1) := (blk_cell BK101.out 1).trans rfl; have hfz5_0 := blk_frozen BK101.out 0; have hfz5_1 := blk_frozen BK101.out 1) | ((with_reducible refine gate_callee (f := 37) rfl ?_); refine goesL_ (some 14) rfl rfl Try.func37 (by kernel_rfl) rfl #[.agg #[.int .i64 a0_0, .string a0_1], .int .i64 1048576] rfl (by (try simp only [List.map_toArray, List.map_cons, List.map_nil]); first | done | rfl | (simp only [List.length_drop, List.length_take]; rfl)) ?_; (with_reducible refine (laws_szTable.calls a0_0 a0_1 1048576 t102 _ A2.out).mono ?_); rintro e w6 ⟨rfl, hb⟩; refine ⟨_, rfl, ?_⟩; have n0_ := bb BK101 hb; have n1_ := bs1 HB hb GE101; clear BK101; clear HB; have BK101 := n0_; have HB := n1_; clear n0_ n1_; (try clear hb); (try clear hb2); (try clear hk); (try clear hi)))
  go_ret
  exact ⟨by first | rfl | (simp [errW_none, errW_some] <;> rfl) | (simp [*, errW_none, errW_some] <;> rfl), by repeat (first | (with_reducible first | exact HB.out | apply below_alloc | apply pw_below_drewN | apply below_drew1 | refine below_set ?_ GE101.out) | exact HB.out)⟩
 ·rw [if_neg c3] at H
  have c3b0 : decide (t102 < 0) = false := decide_eq_false c3; clear c3
  replace H := Option.bind_eq_some_iff.mp H
  obtain ⟨⟨t103, t104⟩, A70, H⟩ := H
  replace H : ((spec_GraphOf.f k t103 t104).bind fun bt105 => ((laws_toTable.f a0_0 a0_1).bind fun bt111 => ((impl_GraphOf.f k bt111.1 bt111.2).bind fun bt113 => ((laws_eqGraph.f k bt113.1 bt113.2.1 bt105.1 bt105.2.1).bind fun t119 => (if t119 = true then (laws_FnExactGraphOf.j0 k bt105.2.2 (bt113.2.2 != bt105.2.2) a0_0 a0_1 bt105.1 bt105.2.1 bt113.1 bt113.2.1) else (laws_FnExactGraphOf.j0 k bt105.2.2 true a0_0 a0_1 bt105.1 bt105.2.1 bt113.1 bt113.2.1)))))) = some r := H
  have A7 := Aside0.mk A70; clear A70
  replace H := Option.bind_eq_some_iff.mp H
  obtain ⟨⟨t105, t106, t109⟩, A80, H⟩ := H
  replace H : ((laws_toTable.f a0_0 a0_1).bind fun bt111 => ((impl_GraphOf.f k bt111.1 bt111.2).bind fun bt113 => ((laws_eqGraph.f k bt113.1 bt113.2.1 t105 t106).bind fun t119 => (if t119 = true then (laws_FnExactGraphOf.j0 k t109 (bt113.2.2 != t109) a0_0 a0_1 t105 t106 bt113.1 bt113.2.1) else (laws_FnExactGraphOf.j0 k t109 true a0_0 a0_1 t105 t106 bt113.1 bt113.2.1))))) = some r := H
  have A8 := Aside0.mk A80; clear A80
  replace H := Option.bind_eq_some_iff.mp H
  obtain ⟨⟨t111, t112⟩, A90, H⟩ := H
  replace H : ((impl_GraphOf.f k t111 t112).bind fun bt113 => ((laws_eqGraph.f k bt113.1 bt113.2.1 t105 t106).bind fun t119 => (if t119 = true then (laws_FnExactGraphOf.j0 k t109 (bt113.2.2 != t109) a0_0 a0_1 t105 t106 bt113.1 bt113.2.1) else (laws_FnExactGraphOf.j0 k t109 true a0_0 a0_1 t105 t106 bt113.1 bt113.2.1)))) = some r := H
  have A9 := Aside0.mk A90; clear A90
  replace H := Option.bind_eq_some_iff.mp H
  obtain ⟨⟨t113, t114, t117⟩, A100, H⟩ := H
  replace H : ((laws_eqGraph.f k t113 t114 t105 t106).bind fun t119 => (if t119 = true then (laws_FnExactGraphOf.j0 k t109 (t117 != t109) a0_0 a0_1 t105 t106 t113 t114) else (laws_FnExactGraphOf.j0 k t109 true a0_0 a0_1 t105 t106 t113 t114))) = some r := H
  have A10 := Aside0.mk A100; clear A100; have HC11 := Aside0.mk H; clear H
  go_enter Try.func10, Try.ntmps10
  go_upto_region 7 with (first | ((with_reducible refine gate_dst (N := 1) rfl ?_); refine box_event ?hg (N := 1) ?hd (cs := #[.int .i64 a0_0, .string a0_1]) (t := 50) ?hr ?_; (case hd => rfl); (case hg => rfl); (case hr => first | (go_simp; done) | (go_simp; rfl)); intro gb101 hg w12 hbox hb; have n0_ := bs0 HB hb; have n1_ := Aside0.mk (hbox); have n2_ := bz0 hg HB; have n3_ := bz0 hg HB; clear HB; have HB := n0_; have BK101 := n1_; have GW101 := n2_; have GE101 := n3_; clear n0_ n1_ n2_ n3_; clear hb hbox hg; have hcz13_0 : w12.cell? ⟨gb101, 0, none⟩ = some (.int .i64 a0_0) := (blk_cell BK101.out 0).trans rfl; have hcz13_1 : w12.cell? ⟨gb101, 1, none⟩ = some (.string a0_1) := (blk_cell BK101.out 1).trans rfl; have hfz13_0 := blk_frozen BK101.out 0; have hfz13_1 := blk_frozen BK101.out 1) | ((with_reducible refine gate_callee (f := 37) rfl ?_); refine goesL_ (some 14) rfl rfl Try.func37 (by kernel_rfl) rfl #[.agg #[.int .i64 a0_0, .string a0_1], .int .i64 1048576] rfl (by (try simp only [List.map_toArray, List.map_cons, List.map_nil]); first | done | rfl | (simp only [List.length_drop, List.length_take]; rfl)) ?_; (with_reducible refine (laws_szTable.calls a0_0 a0_1 1048576 t102 _ A2.out).mono ?_); rintro e w14 ⟨rfl, hb⟩; refine ⟨_, rfl, ?_⟩; have n0_ := bb BK101 hb; have n1_ := bs1 HB hb GE101; clear BK101; clear HB; have BK101 := n0_; have HB := n1_; clear n0_ n1_; (try clear hb); (try clear hb2); (try clear hk); (try clear hi); have hcz15_0 : w14.cell? ⟨gb101, 0, none⟩ = some (.int .i64 a0_0) := (blk_cell BK101.out 0).trans rfl; have hcz15_1 : w14.cell? ⟨gb101, 1, none⟩ = some (.string a0_1) := (blk_cell BK101.out 1).trans rfl; have hfz15_0 := blk_frozen BK101.out 0; have hfz15_1 := blk_frozen BK101.out 1) | ((with_reducible refine gate_callee (f := 39) rfl ?_); refine goesL_ (some 19) rfl rfl Try.func39 (by kernel_rfl) rfl #[.agg #[.int .i64 a0_0, .string a0_1]] rfl (by (try simp only [List.map_toArray, List.map_cons, List.map_nil]); first | done | rfl | (simp only [List.length_drop, List.length_take]; rfl)) ?_; (with_reducible refine (laws_toTable.calls a0_0 a0_1 t103 t104 _ A7.out).mono ?_); rintro e w16 ⟨rfl, hb⟩; refine ⟨_, rfl, ?_⟩; have n0_ := bb BK101 hb; have n1_ := bs1 HB hb GE101; clear BK101; clear HB; have BK101 := n0_; have HB := n1_; clear n0_ n1_; (try clear hb); (try clear hb2); (try clear hk); (try clear hi)) | ((with_reducible refine gate_callee (f := 38) rfl ?_); refine goesL_ (some 20) rfl rfl Try.func38 (by kernel_rfl) rfl #[.agg #[.int .i64 t103, .string t104]] rfl (by (try simp only [List.map_toArray, List.map_cons, List.map_nil]); first | done | rfl | (simp only [List.length_drop, List.length_take]; rfl)) ?_; (with_reducible refine (spec_GraphOf.calls k t103 t104 t105 t106 t109 _ A8.out).mono ?_); rintro e w17 ⟨v107, rfl, ho0, hb⟩; refine ⟨_, rfl, ?_⟩; have n0_ := Aside0.mk (Kd.R_lower ho0 (below_size (by repeat (first | (with_reducible first | exact HB.out | apply below_alloc | apply pw_below_drewN | apply below_drew1 | refine below_set ?_ GE101.out) | exact HB.out)))); have n1_ := bb BK101 hb; have n2_ := bs1 HB hb GE101; clear BK101; clear HB; have HO108 := n0_; have BK101 := n1_; have HB := n2_; clear n0_ n1_ n2_; (try clear hb); (try clear hb2); (try clear hk); (try clear hi); (try clear ho0)) | ((with_reducible refine gate_dst (N := 4) rfl ?_); refine box_event ?hg (N := 4) ?hd (cs := #[.int .i64 0, .slice none 0 0]) (t := 29) ?hr ?_; (case hd => rfl); (case hg => rfl); (case hr => first | (go_simp; done) | (go_simp; rfl)); intro gb110 hg w18 hbox hb; have n0_ := rb HO108 hb; have n1_ := bb BK101 hb; have n2_ := bs1 HB hb GE101; have n3_ := Aside0.mk (hbox); have n4_ := bz1 hg HB GE101; have n5_ := bz1 hg HB GE101; have n6_ := nl hg BK101; have n7_ := ng hg BK101; clear HO108; clear BK101; clear HB; have HO108 := n0_; have BK101 := n1_; have HB := n2_; have BK110 := n3_; have GW110 := n4_; have GE110 := n5_; have NB101_110 := n6_; have NB110_101 := n7_; clear n0_ n1_ n2_ n3_ n4_ n5_ n6_ n7_; clear hb hbox hg; have hnb19 := NB110_101.out; have hnc19 := NB101_110.out; have hcz20_0 : w18.cell? ⟨gb110, 0, none⟩ = some (.int .i64 0) := (blk_cell BK110.out 0).trans rfl; have hcz20_1 : w18.cell? ⟨gb110, 1, none⟩ = some (.slice none 0 0) := (blk_cell BK110.out 1).trans rfl; have hfz20_0 := blk_frozen BK110.out 0; have hfz20_1 := blk_frozen BK110.out 1; obtain ⟨Ao21, co21, eo21⟩ := Kd.R_slice HO108.out; subst eo21; have hcz22_0 : w18.cell? ⟨gb101, 0, none⟩ = some (.int .i64 a0_0) := (blk_cell BK101.out 0).trans rfl; have hcz22_1 : w18.cell? ⟨gb101, 1, none⟩ = some (.string a0_1) := (blk_cell BK101.out 1).trans rfl; have hfz22_0 := blk_frozen BK101.out 0; have hfz22_1 := blk_frozen BK101.out 1) | ((with_reducible refine gate_callee (f := 39) rfl ?_); refine goesL_ (some 25) rfl rfl Try.func39 (by kernel_rfl) rfl #[.agg #[.int .i64 a0_0, .string a0_1]] rfl (by (try simp only [List.map_toArray, List.map_cons, List.map_nil]); first | done | rfl | (simp only [List.length_drop, List.length_take]; rfl)) ?_; (with_reducible refine (laws_toTable.calls a0_0 a0_1 t111 t112 _ A9.out).mono ?_); rintro e w23 ⟨rfl, hb⟩; refine ⟨_, rfl, ?_⟩; have n0_ := rbf HO108 BK110 hb; have n1_ := Aside0.mk (blk_below (dq BK101 NB101_110) hb); have n2_ := Aside0.mk (blk_below (g := gb110) (o := .cells #[.int .i64 t105, .slice Ao21 t106.length co21] 29 (0, 0)) (by (with_reducible repeat (first | refine blk_drewN ?_ _ | refine blk_drew ?_ | refine blk_alloc ?_ _)); exact bp2 BK110.out) hb); have n3_ := bs2 HB hb GE101 GE110; clear HO108; clear BK101; clear BK110; clear HB; have HO108 := n0_; have BK101 := n1_; have BK110 := n2_; have HB := n3_; clear n0_ n1_ n2_ n3_; (try clear hb); (try clear hb2); (try clear hk); (try clear hi)) | ((with_reducible refine gate_callee (f := 40) rfl ?_); refine goesL_ (some 26) rfl rfl Try.func40 (by kernel_rfl) rfl #[.agg #[.int .i64 t111, .string t112]] rfl (by (try simp only [List.map_toArray, List.map_cons, List.map_nil]); first | done | rfl | (simp only [List.length_drop, List.length_take]; rfl)) ?_; (with_reducible refine (impl_GraphOf.calls k t111 t112 t113 t114 t117 _ A10.out).mono ?_); rintro e w24 ⟨v115, rfl, ho0, hb⟩; refine ⟨_, rfl, ?_⟩; have n0_ := re HO108 (Kd.R_base ho0) hb; have n1_ := Aside0.mk (Kd.R_lower (Kd.R_new' ho0 (Kd.R_lt (by (with_reducible repeat (first | apply Kd.R_alloc | apply Kd.R_drewN | apply Kd.R_drew)); exact HO108.out))) (below_size (by repeat (first | (with_reducible first | exact HB.out | apply below_alloc | apply pw_below_drewN | apply below_drew1 | refine below_set ?_ GE101.out | refine below_set ?_ GE110.out) | exact HB.out)))); have n2_ := bb BK101 hb; have n3_ := bb BK110 hb; have n4_ := bs2 HB hb GE101 GE110; clear HO108; clear BK101; clear BK110; clear HB; have HO108 := n0_; have HO116 := n1_; have BK101 := n2_; have BK110 := n3_; have HB := n4_; clear n0_ n1_ n2_ n3_ n4_; (try clear hb); (try clear hb2); (try clear hk); (try clear hi); (try clear ho0)) | ((with_reducible refine gate_dst (N := 6) rfl ?_); refine box_event ?hg (N := 6) ?hd (cs := #[.int .i64 0, .slice none 0 0]) (t := 29) ?hr ?_; (case hd => rfl); (case hg => rfl); (case hr => first | (go_simp; done) | (go_simp; rfl)); intro gb118 hg w25 hbox hb; have n0_ := rb HO108 hb; have n1_ := rb HO116 hb; have n2_ := bb BK101 hb; have n3_ := bb BK110 hb; have n4_ := bs2 HB hb GE101 GE110; have n5_ := Aside0.mk (hbox); have n6_ := bz2 hg HB GE101 GE110; have n7_ := bz2 hg HB GE101 GE110; have n8_ := nl hg BK101; have n9_ := ng hg BK101; have n10_ := nl hg BK110; have n11_ := ng hg BK110; clear HO108; clear HO116; clear BK101; clear BK110; clear HB; have HO108 := n0_; have HO116 := n1_; have BK101 := n2_; have BK110 := n3_; have HB := n4_; have BK118 := n5_; have GW118 := n6_; have GE118 := n7_; have NB101_118 := n8_; have NB118_101 := n9_; have NB110_118 := n10_; have NB118_110 := n11_; clear n0_ n1_ n2_ n3_ n4_ n5_ n6_ n7_ n8_ n9_ n10_ n11_; clear hb hbox hg; have hnb26 := NB118_101.out; have hnc26 := NB101_118.out; have hnb27 := NB118_110.out; have hnc27 := NB110_118.out; have hcz28_0 : w25.cell? ⟨gb118, 0, none⟩ = some (.int .i64 0) := (blk_cell BK118.out 0).trans rfl; have hcz28_1 : w25.cell? ⟨gb118, 1, none⟩ = some (.slice none 0 0) := (blk_cell BK118.out 1).trans rfl; have hfz28_0 := blk_frozen BK118.out 0; have hfz28_1 := blk_frozen BK118.out 1; obtain ⟨Ao29, co29, eo29⟩ := Kd.R_slice HO116.out; subst eo29))
  (try simp only [Act.put, List.setIfInBounds_toArray, List.set_cons_zero, List.set_cons_succ])
  go_cut [37] (fun v37 wc => ∃ (kq : Nat) (x37_10 : Bool), v37 = .bool x37_10 ∧ Aside0 (laws_FnExactGraphOf.j0 kq t109 x37_10 a0_0 a0_1 t105 t106 t113 t114 = some r) ∧ Aside0 (kq ≤ k) ∧ Aside0 (Kd.R k79 79 wc w.heap.size (fun k_ => some k_ ≠ ((.slice Ao29 t114.length co29) : Value).ownBlock) (.slice Ao21 t106.length co21) t106) ∧ Aside0 (Kd.R k79 79 wc w.heap.size (fun k_ => some k_ ≠ ((.slice Ao21 t106.length co21) : Value).ownBlock) (.slice Ao29 t114.length co29) t114) ∧ Aside0 (wc.heap[gb101]? = some (.cells #[.int .i64 a0_0, .string a0_1] 50 (0, 0))) ∧ Aside0 (wc.heap[gb110]? = some (.cells #[.int .i64 t105, (.slice Ao21 t106.length co21)] 29 (0, 0))) ∧ Aside0 (wc.heap[gb118]? = some (.cells #[.int .i64 t113, (.slice Ao29 t114.length co29)] 29 (0, 0))) ∧ Aside0 (Below w.heap.size w wc))
  case first =>
   have H := HC11.out; clear HC11
   replace H := Option.bind_eq_some_iff.mp H
   obtain ⟨t119, A300, H⟩ := H
   replace H : (if t119 = true then (laws_FnExactGraphOf.j0 k t109 (t117 != t109) a0_0 a0_1 t105 t106 t113 t114) else (laws_FnExactGraphOf.j0 k t109 true a0_0 a0_1 t105 t106 t113 t114)) = some r := H
   have A30 := Aside0.mk A300; clear A300
   by_cases c31 : t119 = true
   ·subst c31
    have H1 : (laws_FnExactGraphOf.j0 k t109 (t117 != t109) a0_0 a0_1 t105 t106 t113 t114) = some r := by rw [if_pos rfl] at H; exact H
    clear H; have H := H1; clear H1
    have H' := Aside0.mk H
    clear H; have hnb32 := NB118_101.out; have hnc32 := NB101_118.out; have hnb33 := NB118_110.out; have hnc33 := NB110_118.out; have hcz34_0 : w25.cell? ⟨gb118, 0, none⟩ = some (.int .i64 0) := (blk_cell BK118.out 0).trans rfl; have hcz34_1 : w25.cell? ⟨gb118, 1, none⟩ = some (.slice none 0 0) := (blk_cell BK118.out 1).trans rfl; have hfz34_0 := blk_frozen BK118.out 0; have hfz34_1 := blk_frozen BK118.out 1; have hnb35 := NB110_101.out; have hnc35 := NB101_110.out; have hcz36_0 : w25.cell? ⟨gb110, 0, none⟩ = some (.int .i64 t105) := (blk_cell BK110.out 0).trans rfl; have hcz36_1 : w25.cell? ⟨gb110, 1, none⟩ = some (.slice Ao21 t106.length co21) := (blk_cell BK110.out 1).trans rfl; have hfz36_0 := blk_frozen BK110.out 0; have hfz36_1 := blk_frozen BK110.out 1
    go_wp2_with (first | ((with_reducible refine gate_callee (f := 19) rfl ?_); refine goesL_ (some 31) rfl rfl Try.func19 (by kernel_rfl) rfl #[.agg #[.int .i64 t113, .slice Ao29 t114.length co29], .agg #[.int .i64 t105, .slice Ao21 t106.length co21]] rfl (by (try simp only [List.map_toArray, List.map_cons, List.map_nil]); first | done | rfl | (simp only [List.length_drop, List.length_take]; rfl)) ?_; (with_reducible refine (laws_eqGraph.calls k t113 _ _ t114 t105 _ _ t106 true _ ?side1 ?side2 ?side3 ?side4 A30.out).mono ?_); (case side1 => refine (Kd.R_reads' (e := 79) (base := w.heap.size) (ok := fun k_ => (True ∧ some k_ ≠ (.slice Ao21 t106.length co21 : Value).ownBlock)) (n := t114.length) (c := co29) ?_).2.2; exact (by (with_reducible repeat (first | apply Kd.R_alloc | apply Kd.R_drewN | apply Kd.R_drew)); exact (rf HO116 BK118))); (case side2 => exact (Kd.R_reads' HO116.out).2.1); (case side3 => refine (Kd.R_reads' (e := 79) (base := w.heap.size) (ok := fun k_ => (True ∧ some k_ ≠ (.slice Ao29 t114.length co29 : Value).ownBlock)) (n := t106.length) (c := co21) ?_).2.2; exact (by (with_reducible repeat (first | apply Kd.R_alloc | apply Kd.R_drewN | apply Kd.R_drew)); exact (rf HO108 BK118))); (case side4 => exact (Kd.R_reads' HO108.out).2.1); rintro e w37 ⟨rfl, hb⟩; refine ⟨_, rfl, ?_⟩; have n0_ := rbf HO108 BK118 hb; have n1_ := rbf HO116 BK118 hb; have n2_ := Aside0.mk (blk_below (dq BK101 NB101_118) hb); have n3_ := Aside0.mk (blk_below (dq BK110 NB110_118) hb); have n4_ := Aside0.mk (blk_below (g := gb118) (o := .cells #[.int .i64 t113, .slice Ao29 t114.length co29] 29 (0, 0)) (by (with_reducible repeat (first | refine blk_drewN ?_ _ | refine blk_drew ?_ | refine blk_alloc ?_ _)); exact bp2 BK118.out) hb); have n5_ := bs3 HB hb GE101 GE110 GE118; clear HO108; clear HO116; clear BK101; clear BK110; clear BK118; clear HB; have HO108 := n0_; have HO116 := n1_; have BK101 := n2_; have BK110 := n3_; have BK118 := n4_; have HB := n5_; clear n0_ n1_ n2_ n3_ n4_ n5_; (try clear hb); (try clear hb2); (try clear hk); (try clear hi)))
    go_meet
    case rel => exact ⟨_, ((t117 != t109)), (by first | rfl | (simp; done) | (simp [*]; done)), H', ⟨by first | omega | exact Nat.le_refl _⟩, ⟨by (with_reducible repeat (first | apply Kd.R_alloc | apply Kd.R_drewN | apply Kd.R_drew)); exact Kd.R_mono HO108.out (fun _ hk => hk.2)⟩, ⟨by (with_reducible repeat (first | apply Kd.R_alloc | apply Kd.R_drewN | apply Kd.R_drew)); exact Kd.R_mono HO116.out (fun _ hk => hk.2)⟩, ⟨by (with_reducible repeat (first | refine blk_drewN ?_ _ | refine blk_drew ?_ | refine blk_alloc ?_ _)); exact BK101.out⟩, ⟨by (with_reducible repeat (first | refine blk_drewN ?_ _ | refine blk_drew ?_ | refine blk_alloc ?_ _)); exact BK110.out⟩, ⟨by (with_reducible repeat (first | refine blk_drewN ?_ _ | refine blk_drew ?_ | refine blk_alloc ?_ _)); exact BK118.out⟩, ⟨by repeat (first | (with_reducible first | exact HB.out | apply below_alloc | apply pw_below_drewN | apply below_drew1 | refine below_set ?_ GE101.out | refine below_set ?_ GE110.out | refine below_set ?_ GE118.out) | exact HB.out)⟩⟩
   ·replace c31 := Bool.eq_false_iff.mpr c31
    subst c31
    have H1 : (laws_FnExactGraphOf.j0 k t109 true a0_0 a0_1 t105 t106 t113 t114) = some r := by rw [if_neg (show ¬ (false = true) by decide)] at H; exact H
    clear H; have H := H1; clear H1
    have H' := Aside0.mk H
    clear H; have hnb38 := NB118_101.out; have hnc38 := NB101_118.out; have hnb39 := NB118_110.out; have hnc39 := NB110_118.out; have hcz40_0 : w25.cell? ⟨gb118, 0, none⟩ = some (.int .i64 0) := (blk_cell BK118.out 0).trans rfl; have hcz40_1 : w25.cell? ⟨gb118, 1, none⟩ = some (.slice none 0 0) := (blk_cell BK118.out 1).trans rfl; have hfz40_0 := blk_frozen BK118.out 0; have hfz40_1 := blk_frozen BK118.out 1; have hnb41 := NB110_101.out; have hnc41 := NB101_110.out; have hcz42_0 : w25.cell? ⟨gb110, 0, none⟩ = some (.int .i64 t105) := (blk_cell BK110.out 0).trans rfl; have hcz42_1 : w25.cell? ⟨gb110, 1, none⟩ = some (.slice Ao21 t106.length co21) := (blk_cell BK110.out 1).trans rfl; have hfz42_0 := blk_frozen BK110.out 0; have hfz42_1 := blk_frozen BK110.out 1
    go_wp2_with (first | ((with_reducible refine gate_callee (f := 19) rfl ?_); refine goesL_ (some 31) rfl rfl Try.func19 (by kernel_rfl) rfl #[.agg #[.int .i64 t113, .slice Ao29 t114.length co29], .agg #[.int .i64 t105, .slice Ao21 t106.length co21]] rfl (by (try simp only [List.map_toArray, List.map_cons, List.map_nil]); first | done | rfl | (simp only [List.length_drop, List.length_take]; rfl)) ?_; (with_reducible refine (laws_eqGraph.calls k t113 _ _ t114 t105 _ _ t106 false _ ?side1 ?side2 ?side3 ?side4 A30.out).mono ?_); (case side1 => refine (Kd.R_reads' (e := 79) (base := w.heap.size) (ok := fun k_ => (True ∧ some k_ ≠ (.slice Ao21 t106.length co21 : Value).ownBlock)) (n := t114.length) (c := co29) ?_).2.2; exact (by (with_reducible repeat (first | apply Kd.R_alloc | apply Kd.R_drewN | apply Kd.R_drew)); exact (rf HO116 BK118))); (case side2 => exact (Kd.R_reads' HO116.out).2.1); (case side3 => refine (Kd.R_reads' (e := 79) (base := w.heap.size) (ok := fun k_ => (True ∧ some k_ ≠ (.slice Ao29 t114.length co29 : Value).ownBlock)) (n := t106.length) (c := co21) ?_).2.2; exact (by (with_reducible repeat (first | apply Kd.R_alloc | apply Kd.R_drewN | apply Kd.R_drew)); exact (rf HO108 BK118))); (case side4 => exact (Kd.R_reads' HO108.out).2.1); rintro e w43 ⟨rfl, hb⟩; refine ⟨_, rfl, ?_⟩; have n0_ := rbf HO108 BK118 hb; have n1_ := rbf HO116 BK118 hb; have n2_ := Aside0.mk (blk_below (dq BK101 NB101_118) hb); have n3_ := Aside0.mk (blk_below (dq BK110 NB110_118) hb); have n4_ := Aside0.mk (blk_below (g := gb118) (o := .cells #[.int .i64 t113, .slice Ao29 t114.length co29] 29 (0, 0)) (by (with_reducible repeat (first | refine blk_drewN ?_ _ | refine blk_drew ?_ | refine blk_alloc ?_ _)); exact bp2 BK118.out) hb); have n5_ := bs3 HB hb GE101 GE110 GE118; clear HO108; clear HO116; clear BK101; clear BK110; clear BK118; clear HB; have HO108 := n0_; have HO116 := n1_; have BK101 := n2_; have BK110 := n3_; have BK118 := n4_; have HB := n5_; clear n0_ n1_ n2_ n3_ n4_ n5_; (try clear hb); (try clear hb2); (try clear hk); (try clear hi)))
    go_meet
    case rel => exact ⟨_, (true), (by first | rfl | (simp; done) | (simp [*]; done)), H', ⟨by first | omega | exact Nat.le_refl _⟩, ⟨by (with_reducible repeat (first | apply Kd.R_alloc | apply Kd.R_drewN | apply Kd.R_drew)); exact Kd.R_mono HO108.out (fun _ hk => hk.2)⟩, ⟨by (with_reducible repeat (first | apply Kd.R_alloc | apply Kd.R_drewN | apply Kd.R_drew)); exact Kd.R_mono HO116.out (fun _ hk => hk.2)⟩, ⟨by (with_reducible repeat (first | refine blk_drewN ?_ _ | refine blk_drew ?_ | refine blk_alloc ?_ _)); exact BK101.out⟩, ⟨by (with_reducible repeat (first | refine blk_drewN ?_ _ | refine blk_drew ?_ | refine blk_alloc ?_ _)); exact BK110.out⟩, ⟨by (with_reducible repeat (first | refine blk_drewN ?_ _ | refine blk_drew ?_ | refine blk_alloc ?_ _)); exact BK118.out⟩, ⟨by repeat (first | (with_reducible first | exact HB.out | apply below_alloc | apply pw_below_drewN | apply below_drew1 | refine below_set ?_ GE101.out | refine below_set ?_ GE110.out | refine below_set ?_ GE118.out) | exact HB.out)⟩⟩
  case rest =>
   clear HC11
   (try clear c1); (try clear c2); (try clear p2); (try clear c3); (try clear c3b0); (try clear c4); (try clear c10); (try clear c19); (try clear c26); (try clear c27); (try clear c31); (try clear c32); (try clear c33); (try clear c35); (try clear c37); (try clear c38); (try clear c39); (try clear c40); (try clear c41); (try clear hcz13_0); (try clear hcz13_1); (try clear hcz15_0); (try clear hcz15_1); (try clear hcz20_0); (try clear hcz20_1); (try clear hcz22_0); (try clear hcz22_1); (try clear hcz28_0); (try clear hcz28_1); (try clear hcz34_0); (try clear hcz34_1); (try clear hcz36_0); (try clear hcz36_1); (try clear hcz40_0); (try clear hcz40_1); (try clear hcz42_0); (try clear hcz42_1); (try clear hcz5_0); (try clear hcz5_1); (try clear hfz13_0); (try clear hfz13_1); (try clear hfz15_0); (try clear hfz15_1); (try clear hfz20_0); (try clear hfz20_1); (try clear hfz22_0); (try clear hfz22_1); (try clear hfz28_0); (try clear hfz28_1); (try clear hfz34_0); (try clear hfz34_1); (try clear hfz36_0); (try clear hfz36_1); (try clear hfz40_0); (try clear hfz40_1); (try clear hfz42_0); (try clear hfz42_1); (try clear hfz5_0); (try clear hfz5_1)
   obtain ⟨kq, x37_10, rfl, HA, HJ10, HO_111001, HO_119001, BK101, BK110, BK118, HB⟩ := hcut
   cases kq with
      | zero => exact absurd HA.out (by simp [laws_FnExactGraphOf.j0])
      | succ kj10 =>
    have H := HA.out; clear HA
    simp only [laws_FnExactGraphOf.j0] at H
    by_cases c44 : x37_10 = true
    ·subst c44
     have H1 : (some false) = some r := by rw [if_pos rfl] at H; exact H
     clear H; have H := H1; clear H1
     exact absurd ((Option.some.inj H).trans HT.out) (by decide)
    ·replace c44 := Bool.eq_false_iff.mpr c44
     subst c44
     have H1 : ((laws_markGraph.f kj10 t113 t114 1).bind fun bt120 => ((laws_heldGraph.f kj10 t113 bt120.2 1).bind fun t122 => (if t122 < 0 then (some false) else (if t122 = bt120.1 then ((laws_toTable.f a0_0 a0_1).bind fun bt123 => ((impl_GraphOf.f kj10 bt123.1 bt123.2).bind fun bt125 => ((laws_eqGraph.f kj10 bt125.1 bt125.2.1 t105 t106).bind fun t131 => (if t131 = true then (laws_FnExactGraphOf.j1 kj10 bt120.1 (bt125.2.2 != t109) t113 bt120.2) else (laws_FnExactGraphOf.j1 kj10 bt120.1 true t113 bt120.2))))) else (some false))))) = some r := by rw [if_neg (show ¬ (false = true) by decide)] at H; exact H
     clear H; have H := H1; clear H1
     replace H := Option.bind_eq_some_iff.mp H
     obtain ⟨⟨t120, t121⟩, A450, H⟩ := H
     replace H : ((laws_heldGraph.f kj10 t113 t121 1).bind fun t122 => (if t122 < 0 then (some false) else (if t122 = t120 then ((laws_toTable.f a0_0 a0_1).bind fun bt123 => ((impl_GraphOf.f kj10 bt123.1 bt123.2).bind fun bt125 => ((laws_eqGraph.f kj10 bt125.1 bt125.2.1 t105 t106).bind fun t131 => (if t131 = true then (laws_FnExactGraphOf.j1 kj10 t120 (bt125.2.2 != t109) t113 t121) else (laws_FnExactGraphOf.j1 kj10 t120 true t113 t121))))) else (some false)))) = some r := H
     have A45 := Aside0.mk A450; clear A450
     replace H := Option.bind_eq_some_iff.mp H
     obtain ⟨t122, A460, H⟩ := H
     replace H : (if t122 < 0 then (some false) else (if t122 = t120 then ((laws_toTable.f a0_0 a0_1).bind fun bt123 => ((impl_GraphOf.f kj10 bt123.1 bt123.2).bind fun bt125 => ((laws_eqGraph.f kj10 bt125.1 bt125.2.1 t105 t106).bind fun t131 => (if t131 = true then (laws_FnExactGraphOf.j1 kj10 t120 (bt125.2.2 != t109) t113 t121) else (laws_FnExactGraphOf.j1 kj10 t120 true t113 t121))))) else (some false))) = some r := H
     have A46 := Aside0.mk A460; clear A460
     by_cases c47 : t122 < 0
     ·rw [if_pos c47] at H
      have c47b0 : decide (t122 < 0) = true := decide_eq_true c47; clear c47
      exact absurd ((Option.some.inj H).trans HT.out) (by decide)
     ·rw [if_neg c47] at H
      have c47b0 : decide (t122 < 0) = false := decide_eq_false c47; clear c47
      by_cases c48 : t122 = t120
      ·rw [if_pos c48] at H
       have c48b0 : (t122 == t120) = true := beq_iff_eq.mpr c48; have c48b1 : (t122 != t120) = false := bne_eq_false_iff_eq.mpr c48; clear c48
       replace H := Option.bind_eq_some_iff.mp H
       obtain ⟨⟨t123, t124⟩, A490, H⟩ := H
       replace H : ((impl_GraphOf.f kj10 t123 t124).bind fun bt125 => ((laws_eqGraph.f kj10 bt125.1 bt125.2.1 t105 t106).bind fun t131 => (if t131 = true then (laws_FnExactGraphOf.j1 kj10 t120 (bt125.2.2 != t109) t113 t121) else (laws_FnExactGraphOf.j1 kj10 t120 true t113 t121)))) = some r := H
       have A49 := Aside0.mk A490; clear A490
       replace H := Option.bind_eq_some_iff.mp H
       obtain ⟨⟨t125, t126, t129⟩, A500, H⟩ := H
       replace H : ((laws_eqGraph.f kj10 t125 t126 t105 t106).bind fun t131 => (if t131 = true then (laws_FnExactGraphOf.j1 kj10 t120 (t129 != t109) t113 t121) else (laws_FnExactGraphOf.j1 kj10 t120 true t113 t121))) = some r := H
       have A50 := Aside0.mk A500; clear A500; have HC51 := Aside0.mk H; clear H; have hnb52 := NB118_101.out; have hnc52 := NB101_118.out; have hnb53 := NB118_110.out; have hnc53 := NB110_118.out; have hcz54_0 : wc.cell? ⟨gb118, 0, none⟩ = some (.int .i64 t113) := (blk_cell BK118.out 0).trans rfl; have hcz54_1 : wc.cell? ⟨gb118, 1, none⟩ = some (.slice Ao29 t114.length co29) := (blk_cell BK118.out 1).trans rfl; have hfz54_0 := blk_frozen BK118.out 0; have hfz54_1 := blk_frozen BK118.out 1
       go_upto_region 18 with (first | ((with_reducible refine gate_callee (f := 31) rfl ?_); refine goesL_ (some 40) rfl rfl Try.func31 (by kernel_rfl) rfl #[.agg #[.int .i64 t113, .slice Ao29 t114.length co29], .int .i64 1] rfl (by (try simp only [List.map_toArray, List.map_cons, List.map_nil]); first | done | rfl | (simp only [List.length_drop, List.length_take]; rfl)) ?_; (with_reducible refine (laws_markGraph.calls kj10 t113 (fun k_ => some k_ = (.slice Ao29 t114.length co29 : Value).ownBlock) (.slice Ao29 t114.length co29) t114 1 t120 t121 w _ ?side1 ?side2 A45.out).mono ?_); (case side1 => repeat (first | (with_reducible first | exact HB.out | apply below_alloc | apply pw_below_drewN | apply below_drew1 | refine below_set ?_ GE101.out | refine below_set ?_ GE110.out | refine below_set ?_ GE118.out) | exact HB.out)); (case side2 => exact Kd.R_tight rfl HO_119001.out); rintro e w55 ⟨rfl, hy0, hb, hkp⟩; refine ⟨_, rfl, ?_⟩; have n0_ := Aside0.mk (Kd.R_mono (ok' := fun k_ => some k_ ≠ (.slice Ao29 t114.length co29 : Value).ownBlock) (Kd.R_keptB (HO_111001.out) hkp (fun k_ hk_ hs_ => (hk_) hs_)) (fun k_ hk_ => hk_.1)); have n1_ := Aside0.mk (Kd.R_reok rfl hy0 (fun k_ e_ => HO_119001.out.1 k_ e_)); have n2_ := Aside0.mk (blk_kept (dr BK101) hkp (fun hs_ => (fun e_ => (Kd.R_ne HO_119001.out BK101.out (by decide)) e_) hs_)); have n3_ := Aside0.mk (blk_kept (dr BK110) hkp (fun hs_ => (fun e_ => (Kd.R_ne HO_119001.out BK110.out (by decide)) e_) hs_)); have n4_ := Aside0.mk (blk_kept (dr BK118) hkp (fun hs_ => (fun e_ => (Kd.R_ne HO_119001.out BK118.out (by decide)) e_) hs_)); have n5_ := Aside0.mk (hb); clear HO_111001; clear HO_119001; clear BK101; clear BK110; clear BK118; clear HB; have HO_111001 := n0_; have HO_119001 := n1_; have BK101 := n2_; have BK110 := n3_; have BK118 := n4_; have HB := n5_; clear n0_ n1_ n2_ n3_ n4_ n5_; (try clear hb); (try clear hkp); (try clear hy0); have hcz56_0 : w55.cell? ⟨gb118, 0, none⟩ = some (.int .i64 t113) := (blk_cell BK118.out 0).trans rfl; have hcz56_1 : w55.cell? ⟨gb118, 1, none⟩ = some (.slice Ao29 t114.length co29) := (blk_cell BK118.out 1).trans rfl; have hfz56_0 := blk_frozen BK118.out 0; have hfz56_1 := blk_frozen BK118.out 1) | ((with_reducible refine gate_callee (f := 32) rfl ?_); refine goesL_ (some 43) rfl rfl Try.func32 (by kernel_rfl) rfl #[.agg #[.int .i64 t113, .slice Ao29 t121.length co29], .int .i64 1] rfl (by (try simp only [List.map_toArray, List.map_cons, List.map_nil]); first | done | (rw [show t121.length = t114.length from (Kd.R_reads' HO_119001.out).1.symm] <;> rfl) | rfl | (simp only [List.length_drop, List.length_take]; rfl)) ?_; (with_reducible refine (laws_heldGraph.calls kj10 t113 _ _ t121 1 t122 _ ?side1 ?side2 A46.out).mono ?_); (case side1 => repeat (first | exact (Kd.R_reads' HO_119001.out).2.2 | (with_reducible refine Kd.C_alloc ?_ _) | (with_reducible refine Kd.C_drewN ?_ _) | (with_reducible refine Kd.C_drew ?_))); (case side2 => rw [show t121.length = t114.length from (Kd.R_reads' HO_119001.out).1.symm]; exact (Kd.R_reads' HO_119001.out).2.1); rintro e w57 ⟨rfl, hb⟩; refine ⟨_, rfl, ?_⟩; have n0_ := rb HO_111001 hb; have n1_ := rb HO_119001 hb; have n2_ := bb BK101 hb; have n3_ := bb BK110 hb; have n4_ := bb BK118 hb; have n5_ := bs3 HB hb GE101 GE110 GE118; clear HO_111001; clear HO_119001; clear BK101; clear BK110; clear BK118; clear HB; have HO_111001 := n0_; have HO_119001 := n1_; have BK101 := n2_; have BK110 := n3_; have BK118 := n4_; have HB := n5_; clear n0_ n1_ n2_ n3_ n4_ n5_; (try clear hb); (try clear hb2); (try clear hk); (try clear hi); have hnb58 := NB101_110.out; have hnc58 := NB110_101.out; have hcz59_0 : w57.cell? ⟨gb101, 0, none⟩ = some (.int .i64 a0_0) := (blk_cell BK101.out 0).trans rfl; have hcz59_1 : w57.cell? ⟨gb101, 1, none⟩ = some (.string a0_1) := (blk_cell BK101.out 1).trans rfl; have hfz59_0 := blk_frozen BK101.out 0; have hfz59_1 := blk_frozen BK101.out 1) | ((with_reducible refine gate_callee (f := 39) rfl ?_); refine goesL_ (some 51) rfl rfl Try.func39 (by kernel_rfl) rfl #[.agg #[.int .i64 a0_0, .string a0_1]] rfl (by (try simp only [List.map_toArray, List.map_cons, List.map_nil]); first | done | rfl | (simp only [List.length_drop, List.length_take]; rfl)) ?_; (with_reducible refine (laws_toTable.calls a0_0 a0_1 t123 t124 _ A49.out).mono ?_); rintro e w60 ⟨rfl, hb⟩; refine ⟨_, rfl, ?_⟩; have n0_ := rb HO_111001 hb; have n1_ := rb HO_119001 hb; have n2_ := bb BK101 hb; have n3_ := bb BK110 hb; have n4_ := bb BK118 hb; have n5_ := bs3 HB hb GE101 GE110 GE118; clear HO_111001; clear HO_119001; clear BK101; clear BK110; clear BK118; clear HB; have HO_111001 := n0_; have HO_119001 := n1_; have BK101 := n2_; have BK110 := n3_; have BK118 := n4_; have HB := n5_; clear n0_ n1_ n2_ n3_ n4_ n5_; (try clear hb); (try clear hb2); (try clear hk); (try clear hi)) | ((with_reducible refine gate_callee (f := 40) rfl ?_); refine goesL_ (some 52) rfl rfl Try.func40 (by kernel_rfl) rfl #[.agg #[.int .i64 t123, .string t124]] rfl (by (try simp only [List.map_toArray, List.map_cons, List.map_nil]); first | done | rfl | (simp only [List.length_drop, List.length_take]; rfl)) ?_; (with_reducible refine (impl_GraphOf.calls kj10 t123 t124 t125 t126 t129 _ A50.out).mono ?_); rintro e w61 ⟨v127, rfl, ho0, hb⟩; refine ⟨_, rfl, ?_⟩; have n0_ := re HO_111001 (Kd.R_base ho0) hb; have n1_ := re HO_119001 (Kd.R_base ho0) hb; have n2_ := Aside0.mk (Kd.R_lower (Kd.R_new' (Kd.R_new' ho0 (Kd.R_lt (by (with_reducible repeat (first | apply Kd.R_alloc | apply Kd.R_drewN | apply Kd.R_drew)); exact HO_111001.out))) (Kd.R_lt (by (with_reducible repeat (first | apply Kd.R_alloc | apply Kd.R_drewN | apply Kd.R_drew)); exact HO_119001.out))) (below_size (by repeat (first | (with_reducible first | exact HB.out | apply below_alloc | apply pw_below_drewN | apply below_drew1 | refine below_set ?_ GE101.out | refine below_set ?_ GE110.out | refine below_set ?_ GE118.out) | exact HB.out)))); have n3_ := bb BK101 hb; have n4_ := bb BK110 hb; have n5_ := bb BK118 hb; have n6_ := bs3 HB hb GE101 GE110 GE118; clear HO_111001; clear HO_119001; clear BK101; clear BK110; clear BK118; clear HB; have HO_111001 := n0_; have HO_119001 := n1_; have HO128 := n2_; have BK101 := n3_; have BK110 := n4_; have BK118 := n5_; have HB := n6_; clear n0_ n1_ n2_ n3_ n4_ n5_ n6_; (try clear hb); (try clear hb2); (try clear hk); (try clear hi); (try clear ho0)) | ((with_reducible refine gate_dst (N := 10) rfl ?_); refine box_event ?hg (N := 10) ?hd (cs := #[.int .i64 0, .slice none 0 0]) (t := 29) ?hr ?_; (case hd => rfl); (case hg => rfl); (case hr => first | (go_simp; done) | (go_simp; rfl)); intro gb130 hg w62 hbox hb; have n0_ := rb HO_111001 hb; have n1_ := rb HO_119001 hb; have n2_ := rb HO128 hb; have n3_ := bb BK101 hb; have n4_ := bb BK110 hb; have n5_ := bb BK118 hb; have n6_ := bs3 HB hb GE101 GE110 GE118; have n7_ := Aside0.mk (hbox); have n8_ := bz3 hg HB GE101 GE110 GE118; have n9_ := bz3 hg HB GE101 GE110 GE118; have n10_ := nl hg BK101; have n11_ := ng hg BK101; have n12_ := nl hg BK110; have n13_ := ng hg BK110; have n14_ := nl hg BK118; have n15_ := ng hg BK118; clear HO_111001; clear HO_119001; clear HO128; clear BK101; clear BK110; clear BK118; clear HB; have HO_111001 := n0_; have HO_119001 := n1_; have HO128 := n2_; have BK101 := n3_; have BK110 := n4_; have BK118 := n5_; have HB := n6_; have BK130 := n7_; have GW130 := n8_; have GE130 := n9_; have NB101_130 := n10_; have NB130_101 := n11_; have NB110_130 := n12_; have NB130_110 := n13_; have NB118_130 := n14_; have NB130_118 := n15_; clear n0_ n1_ n2_ n3_ n4_ n5_ n6_ n7_ n8_ n9_ n10_ n11_ n12_ n13_ n14_ n15_; clear hb hbox hg; have hnb63 := NB130_101.out; have hnc63 := NB101_130.out; have hnb64 := NB130_110.out; have hnc64 := NB110_130.out; have hnb65 := NB130_118.out; have hnc65 := NB118_130.out; have hcz66_0 : w62.cell? ⟨gb130, 0, none⟩ = some (.int .i64 0) := (blk_cell BK130.out 0).trans rfl; have hcz66_1 : w62.cell? ⟨gb130, 1, none⟩ = some (.slice none 0 0) := (blk_cell BK130.out 1).trans rfl; have hfz66_0 := blk_frozen BK130.out 0; have hfz66_1 := blk_frozen BK130.out 1; obtain ⟨Ao67, co67, eo67⟩ := Kd.R_slice HO128.out; subst eo67))
       (try simp only [Act.put, List.setIfInBounds_toArray, List.set_cons_zero, List.set_cons_succ])
       go_cut [63] (fun v63 wc => ∃ (kq : Nat) (x63_50 : Bool), v63 = .bool x63_50 ∧ Aside0 (laws_FnExactGraphOf.j1 kq t120 x63_50 t113 t121 = some r) ∧ Aside0 (kq ≤ kj10) ∧ Aside0 (Kd.R k79 79 wc w.heap.size (fun k_ => some k_ ≠ ((.slice Ao29 t114.length co29) : Value).ownBlock ∧ some k_ ≠ ((.slice Ao67 t126.length co67) : Value).ownBlock) (.slice Ao21 t106.length co21) t106) ∧ Aside0 (Kd.R k79 79 wc w.heap.size (fun k_ => some k_ ≠ ((.slice Ao21 t106.length co21) : Value).ownBlock ∧ some k_ ≠ ((.slice Ao67 t126.length co67) : Value).ownBlock) (.slice Ao29 t114.length co29) t121) ∧ Aside0 (Kd.R k79 79 wc w.heap.size (fun k_ => some k_ ≠ ((.slice Ao21 t106.length co21) : Value).ownBlock ∧ some k_ ≠ ((.slice Ao29 t114.length co29) : Value).ownBlock) (.slice Ao67 t126.length co67) t126) ∧ Aside0 (wc.heap[gb101]? = some (.cells #[.int .i64 a0_0, .string a0_1] 50 (0, 0))) ∧ Aside0 (wc.heap[gb110]? = some (.cells #[.int .i64 t105, (.slice Ao21 t106.length co21)] 29 (0, 0))) ∧ Aside0 (wc.heap[gb118]? = some (.cells #[.int .i64 t113, (.slice Ao29 t114.length co29)] 29 (0, 0))) ∧ Aside0 (wc.heap[gb130]? = some (.cells #[.int .i64 t125, (.slice Ao67 t126.length co67)] 29 (0, 0))) ∧ Aside0 (Below w.heap.size w wc))
       case first =>
        have H := HC51.out; clear HC51
        replace H := Option.bind_eq_some_iff.mp H
        obtain ⟨t131, A680, H⟩ := H
        replace H : (if t131 = true then (laws_FnExactGraphOf.j1 kj10 t120 (t129 != t109) t113 t121) else (laws_FnExactGraphOf.j1 kj10 t120 true t113 t121)) = some r := H
        have A68 := Aside0.mk A680; clear A680
        by_cases c69 : t131 = true
        ·subst c69
         have H1 : (laws_FnExactGraphOf.j1 kj10 t120 (t129 != t109) t113 t121) = some r := by rw [if_pos rfl] at H; exact H
         clear H; have H := H1; clear H1
         have H' := Aside0.mk H
         clear H; have hnb70 := NB130_101.out; have hnc70 := NB101_130.out; have hnb71 := NB130_110.out; have hnc71 := NB110_130.out; have hnb72 := NB130_118.out; have hnc72 := NB118_130.out; have hcz73_0 : w62.cell? ⟨gb130, 0, none⟩ = some (.int .i64 0) := (blk_cell BK130.out 0).trans rfl; have hcz73_1 : w62.cell? ⟨gb130, 1, none⟩ = some (.slice none 0 0) := (blk_cell BK130.out 1).trans rfl; have hfz73_0 := blk_frozen BK130.out 0; have hfz73_1 := blk_frozen BK130.out 1; have hnb74 := NB110_101.out; have hnc74 := NB101_110.out; have hnb75 := NB110_118.out; have hnc75 := NB118_110.out; have hcz76_0 : w62.cell? ⟨gb110, 0, none⟩ = some (.int .i64 t105) := (blk_cell BK110.out 0).trans rfl; have hcz76_1 : w62.cell? ⟨gb110, 1, none⟩ = some (.slice Ao21 t106.length co21) := (blk_cell BK110.out 1).trans rfl; have hfz76_0 := blk_frozen BK110.out 0; have hfz76_1 := blk_frozen BK110.out 1
         go_wp2_with (first | ((with_reducible refine gate_callee (f := 19) rfl ?_); refine goesL_ (some 57) rfl rfl Try.func19 (by kernel_rfl) rfl #[.agg #[.int .i64 t125, .slice Ao67 t126.length co67], .agg #[.int .i64 t105, .slice Ao21 t106.length co21]] rfl (by (try simp only [List.map_toArray, List.map_cons, List.map_nil]); first | done | rfl | (simp only [List.length_drop, List.length_take]; rfl)) ?_; (with_reducible refine (laws_eqGraph.calls kj10 t125 _ _ t126 t105 _ _ t106 true _ ?side1 ?side2 ?side3 ?side4 A68.out).mono ?_); (case side1 => refine (Kd.R_reads' (e := 79) (base := w.heap.size) (ok := fun k_ => ((True ∧ some k_ ≠ (.slice Ao21 t106.length co21 : Value).ownBlock) ∧ some k_ ≠ (.slice Ao29 t114.length co29 : Value).ownBlock)) (n := t126.length) (c := co67) ?_).2.2; exact (by (with_reducible repeat (first | apply Kd.R_alloc | apply Kd.R_drewN | apply Kd.R_drew)); exact (rf HO128 BK130))); (case side2 => exact (Kd.R_reads' HO128.out).2.1); (case side3 => refine (Kd.R_reads' (e := 79) (base := w.heap.size) (ok := fun k_ => (some k_ ≠ (.slice Ao29 t114.length co29 : Value).ownBlock ∧ some k_ ≠ (.slice Ao67 t126.length co67 : Value).ownBlock)) (n := t106.length) (c := co21) ?_).2.2; exact (by (with_reducible repeat (first | apply Kd.R_alloc | apply Kd.R_drewN | apply Kd.R_drew)); exact (rf HO_111001 BK130))); (case side4 => exact (Kd.R_reads' HO_111001.out).2.1); rintro e w77 ⟨rfl, hb⟩; refine ⟨_, rfl, ?_⟩; have n0_ := rbf HO_111001 BK130 hb; have n1_ := rbf HO_119001 BK130 hb; have n2_ := rbf HO128 BK130 hb; have n3_ := Aside0.mk (blk_below (dq BK101 NB101_130) hb); have n4_ := Aside0.mk (blk_below (dq BK110 NB110_130) hb); have n5_ := Aside0.mk (blk_below (dq BK118 NB118_130) hb); have n6_ := Aside0.mk (blk_below (g := gb130) (o := .cells #[.int .i64 t125, .slice Ao67 t126.length co67] 29 (0, 0)) (by (with_reducible repeat (first | refine blk_drewN ?_ _ | refine blk_drew ?_ | refine blk_alloc ?_ _)); exact bp2 BK130.out) hb); have n7_ := bs4 HB hb GE101 GE110 GE118 GE130; clear HO_111001; clear HO_119001; clear HO128; clear BK101; clear BK110; clear BK118; clear BK130; clear HB; have HO_111001 := n0_; have HO_119001 := n1_; have HO128 := n2_; have BK101 := n3_; have BK110 := n4_; have BK118 := n5_; have BK130 := n6_; have HB := n7_; clear n0_ n1_ n2_ n3_ n4_ n5_ n6_ n7_; (try clear hb); (try clear hb2); (try clear hk); (try clear hi)))
         go_meet
         case rel => exact ⟨_, ((t129 != t109)), (by first | rfl | (simp; done) | (simp [*]; done)), H', ⟨by have := HJ10.out; first | omega | exact Nat.le_refl _⟩, ⟨by (with_reducible repeat (first | apply Kd.R_alloc | apply Kd.R_drewN | apply Kd.R_drew)); exact HO_111001.out⟩, ⟨by (with_reducible repeat (first | apply Kd.R_alloc | apply Kd.R_drewN | apply Kd.R_drew)); exact HO_119001.out⟩, ⟨by (with_reducible repeat (first | apply Kd.R_alloc | apply Kd.R_drewN | apply Kd.R_drew)); exact Kd.R_mono HO128.out (fun _ hk => ⟨hk.1.2, hk.2⟩)⟩, ⟨by (with_reducible repeat (first | refine blk_drewN ?_ _ | refine blk_drew ?_ | refine blk_alloc ?_ _)); exact BK101.out⟩, ⟨by (with_reducible repeat (first | refine blk_drewN ?_ _ | refine blk_drew ?_ | refine blk_alloc ?_ _)); exact BK110.out⟩, ⟨by (with_reducible repeat (first | refine blk_drewN ?_ _ | refine blk_drew ?_ | refine blk_alloc ?_ _)); exact BK118.out⟩, ⟨by (with_reducible repeat (first | refine blk_drewN ?_ _ | refine blk_drew ?_ | refine blk_alloc ?_ _)); exact BK130.out⟩, ⟨by repeat (first | (with_reducible first | exact HB.out | apply below_alloc | apply pw_below_drewN | apply below_drew1 | refine below_set ?_ GE101.out | refine below_set ?_ GE110.out | refine below_set ?_ GE118.out | refine below_set ?_ GE130.out) | exact HB.out)⟩⟩
        ·replace c69 := Bool.eq_false_iff.mpr c69
         subst c69
         have H1 : (laws_FnExactGraphOf.j1 kj10 t120 true t113 t121) = some r := by rw [if_neg (show ¬ (false = true) by decide)] at H; exact H
         clear H; have H := H1; clear H1
         have H' := Aside0.mk H
         clear H; have hnb78 := NB130_101.out; have hnc78 := NB101_130.out; have hnb79 := NB130_110.out; have hnc79 := NB110_130.out; have hnb80 := NB130_118.out; have hnc80 := NB118_130.out; have hcz81_0 : w62.cell? ⟨gb130, 0, none⟩ = some (.int .i64 0) := (blk_cell BK130.out 0).trans rfl; have hcz81_1 : w62.cell? ⟨gb130, 1, none⟩ = some (.slice none 0 0) := (blk_cell BK130.out 1).trans rfl; have hfz81_0 := blk_frozen BK130.out 0; have hfz81_1 := blk_frozen BK130.out 1; have hnb82 := NB110_101.out; have hnc82 := NB101_110.out; have hnb83 := NB110_118.out; have hnc83 := NB118_110.out; have hcz84_0 : w62.cell? ⟨gb110, 0, none⟩ = some (.int .i64 t105) := (blk_cell BK110.out 0).trans rfl; have hcz84_1 : w62.cell? ⟨gb110, 1, none⟩ = some (.slice Ao21 t106.length co21) := (blk_cell BK110.out 1).trans rfl; have hfz84_0 := blk_frozen BK110.out 0; have hfz84_1 := blk_frozen BK110.out 1
         go_wp2_with (first | ((with_reducible refine gate_callee (f := 19) rfl ?_); refine goesL_ (some 57) rfl rfl Try.func19 (by kernel_rfl) rfl #[.agg #[.int .i64 t125, .slice Ao67 t126.length co67], .agg #[.int .i64 t105, .slice Ao21 t106.length co21]] rfl (by (try simp only [List.map_toArray, List.map_cons, List.map_nil]); first | done | rfl | (simp only [List.length_drop, List.length_take]; rfl)) ?_; (with_reducible refine (laws_eqGraph.calls kj10 t125 _ _ t126 t105 _ _ t106 false _ ?side1 ?side2 ?side3 ?side4 A68.out).mono ?_); (case side1 => refine (Kd.R_reads' (e := 79) (base := w.heap.size) (ok := fun k_ => ((True ∧ some k_ ≠ (.slice Ao21 t106.length co21 : Value).ownBlock) ∧ some k_ ≠ (.slice Ao29 t114.length co29 : Value).ownBlock)) (n := t126.length) (c := co67) ?_).2.2; exact (by (with_reducible repeat (first | apply Kd.R_alloc | apply Kd.R_drewN | apply Kd.R_drew)); exact (rf HO128 BK130))); (case side2 => exact (Kd.R_reads' HO128.out).2.1); (case side3 => refine (Kd.R_reads' (e := 79) (base := w.heap.size) (ok := fun k_ => (some k_ ≠ (.slice Ao29 t114.length co29 : Value).ownBlock ∧ some k_ ≠ (.slice Ao67 t126.length co67 : Value).ownBlock)) (n := t106.length) (c := co21) ?_).2.2; exact (by (with_reducible repeat (first | apply Kd.R_alloc | apply Kd.R_drewN | apply Kd.R_drew)); exact (rf HO_111001 BK130))); (case side4 => exact (Kd.R_reads' HO_111001.out).2.1); rintro e w85 ⟨rfl, hb⟩; refine ⟨_, rfl, ?_⟩; have n0_ := rbf HO_111001 BK130 hb; have n1_ := rbf HO_119001 BK130 hb; have n2_ := rbf HO128 BK130 hb; have n3_ := Aside0.mk (blk_below (dq BK101 NB101_130) hb); have n4_ := Aside0.mk (blk_below (dq BK110 NB110_130) hb); have n5_ := Aside0.mk (blk_below (dq BK118 NB118_130) hb); have n6_ := Aside0.mk (blk_below (g := gb130) (o := .cells #[.int .i64 t125, .slice Ao67 t126.length co67] 29 (0, 0)) (by (with_reducible repeat (first | refine blk_drewN ?_ _ | refine blk_drew ?_ | refine blk_alloc ?_ _)); exact bp2 BK130.out) hb); have n7_ := bs4 HB hb GE101 GE110 GE118 GE130; clear HO_111001; clear HO_119001; clear HO128; clear BK101; clear BK110; clear BK118; clear BK130; clear HB; have HO_111001 := n0_; have HO_119001 := n1_; have HO128 := n2_; have BK101 := n3_; have BK110 := n4_; have BK118 := n5_; have BK130 := n6_; have HB := n7_; clear n0_ n1_ n2_ n3_ n4_ n5_ n6_ n7_; (try clear hb); (try clear hb2); (try clear hk); (try clear hi)))
         go_meet
         case rel => exact ⟨_, (true), (by first | rfl | (simp; done) | (simp [*]; done)), H', ⟨by have := HJ10.out; first | omega | exact Nat.le_refl _⟩, ⟨by (with_reducible repeat (first | apply Kd.R_alloc | apply Kd.R_drewN | apply Kd.R_drew)); exact HO_111001.out⟩, ⟨by (with_reducible repeat (first | apply Kd.R_alloc | apply Kd.R_drewN | apply Kd.R_drew)); exact HO_119001.out⟩, ⟨by (with_reducible repeat (first | apply Kd.R_alloc | apply Kd.R_drewN | apply Kd.R_drew)); exact Kd.R_mono HO128.out (fun _ hk => ⟨hk.1.2, hk.2⟩)⟩, ⟨by (with_reducible repeat (first | refine blk_drewN ?_ _ | refine blk_drew ?_ | refine blk_alloc ?_ _)); exact BK101.out⟩, ⟨by (with_reducible repeat (first | refine blk_drewN ?_ _ | refine blk_drew ?_ | refine blk_alloc ?_ _)); exact BK110.out⟩, ⟨by (with_reducible repeat (first | refine blk_drewN ?_ _ | refine blk_drew ?_ | refine blk_alloc ?_ _)); exact BK118.out⟩, ⟨by (with_reducible repeat (first | refine blk_drewN ?_ _ | refine blk_drew ?_ | refine blk_alloc ?_ _)); exact BK130.out⟩, ⟨by repeat (first | (with_reducible first | exact HB.out | apply below_alloc | apply pw_below_drewN | apply below_drew1 | refine below_set ?_ GE101.out | refine below_set ?_ GE110.out | refine below_set ?_ GE118.out | refine below_set ?_ GE130.out) | exact HB.out)⟩⟩
       case rest =>
        clear HC51
        (try clear c1); (try clear c2); (try clear p2); (try clear c3); (try clear c3b0); (try clear c4); (try clear c5); (try clear c6); (try clear c7); (try clear c8); (try clear c10); (try clear c19); (try clear c26); (try clear c27); (try clear c31); (try clear c32); (try clear c33); (try clear c35); (try clear c37); (try clear c38); (try clear c39); (try clear c40); (try clear c41); (try clear c44); (try clear c47); (try clear c47b0); (try clear c48); (try clear c48b0); (try clear c48b1); (try clear c52); (try clear c53); (try clear c58); (try clear c63); (try clear c64); (try clear c65); (try clear c69); (try clear c70); (try clear c71); (try clear c72); (try clear c74); (try clear c75); (try clear c78); (try clear c79); (try clear c80); (try clear c82); (try clear c83); (try clear hcz13_0); (try clear hcz13_1); (try clear hcz15_0); (try clear hcz15_1); (try clear hcz20_0); (try clear hcz20_1); (try clear hcz22_0); (try clear hcz22_1); (try clear hcz28_0); (try clear hcz28_1); (try clear hcz34_0); (try clear hcz34_1); (try clear hcz36_0); (try clear hcz36_1); (try clear hcz40_0); (try clear hcz40_1); (try clear hcz42_0); (try clear hcz42_1); (try clear hcz54_0); (try clear hcz54_1); (try clear hcz56_0); (try clear hcz56_1); (try clear hcz59_0); (try clear hcz59_1); (try clear hcz5_0); (try clear hcz5_1); (try clear hcz66_0); (try clear hcz66_1); (try clear hcz73_0); (try clear hcz73_1); (try clear hcz76_0); (try clear hcz76_1); (try clear hcz81_0); (try clear hcz81_1); (try clear hcz84_0); (try clear hcz84_1); (try clear hfz13_0); (try clear hfz13_1); (try clear hfz15_0); (try clear hfz15_1); (try clear hfz20_0); (try clear hfz20_1); (try clear hfz22_0); (try clear hfz22_1); (try clear hfz28_0); (try clear hfz28_1); (try clear hfz34_0); (try clear hfz34_1); (try clear hfz36_0); (try clear hfz36_1); (try clear hfz40_0); (try clear hfz40_1); (try clear hfz42_0); (try clear hfz42_1); (try clear hfz54_0); (try clear hfz54_1); (try clear hfz56_0); (try clear hfz56_1); (try clear hfz59_0); (try clear hfz59_1); (try clear hfz5_0); (try clear hfz5_1); (try clear hfz66_0); (try clear hfz66_1); (try clear hfz73_0); (try clear hfz73_1); (try clear hfz76_0); (try clear hfz76_1); (try clear hfz81_0); (try clear hfz81_1); (try clear hfz84_0); (try clear hfz84_1); (try clear p2)
        obtain ⟨kq, x63_50, rfl, HA, HJ50, HO_111001, HO_119001, HO_131001, BK101, BK110, BK118, BK130, HB⟩ := hcut
        have hl119001_50 := (Kd.R_reads' HO_119001.out).1
        rw [hl119001_50] at HO_119001
        (try simp only [hl119001_50])
        (try simp only [hl119001_50] at BK101)
        (try simp only [hl119001_50] at BK110)
        (try simp only [hl119001_50] at BK118)
        (try simp only [hl119001_50] at BK130)
        (try simp only [hl119001_50] at HO_111001)
        (try simp only [hl119001_50] at HO_131001)
        cases kq with
                | zero => exact absurd HA.out (by simp [laws_FnExactGraphOf.j1])
                | succ kj50 =>
         have H := HA.out; clear HA
         simp only [laws_FnExactGraphOf.j1] at H
         by_cases c86 : x63_50 = true
         ·subst c86
          have H1 : (some false) = some r := by rw [if_pos rfl] at H; exact H
          clear H; have H := H1; clear H1
          exact absurd ((Option.some.inj H).trans HT.out) (by decide)
         ·replace c86 := Bool.eq_false_iff.mpr c86
          subst c86
          have H1 : ((laws_heldGraph.f kj50 t113 t121 1).bind fun t132 => (if t132 < 0 then (some false) else (if t132 = t120 then (some true) else (some false)))) = some r := by rw [if_neg (show ¬ (false = true) by decide)] at H; exact H
          clear H; have H := H1; clear H1
          replace H := Option.bind_eq_some_iff.mp H
          obtain ⟨t132, A870, H⟩ := H
          replace H : (if t132 < 0 then (some false) else (if t132 = t120 then (some true) else (some false))) = some r := H
          have A87 := Aside0.mk A870; clear A870
          by_cases c88 : t132 < 0
          ·rw [if_pos c88] at H
           have c88b0 : decide (t132 < 0) = true := decide_eq_true c88; clear c88
           exact absurd ((Option.some.inj H).trans HT.out) (by decide)
          ·rw [if_neg c88] at H
           have c88b0 : decide (t132 < 0) = false := decide_eq_false c88; clear c88
           by_cases c89 : t132 = t120
           ·rw [if_pos c89] at H
            have c89b0 : (t132 == t120) = true := beq_iff_eq.mpr c89; have c89b1 : (t132 != t120) = false := bne_eq_false_iff_eq.mpr c89; clear c89
            obtain rfl := Option.some.inj H
            have hnb90 := NB118_101.out; have hnc90 := NB101_118.out; have hnb91 := NB118_110.out; have hnc91 := NB110_118.out; have hnb92 := NB118_130.out; have hnc92 := NB130_118.out; have hcz93_0 : wc.cell? ⟨gb118, 0, none⟩ = some (.int .i64 t113) := (blk_cell BK118.out 0).trans rfl; have hcz93_1 : wc.cell? ⟨gb118, 1, none⟩ = some (.slice Ao29 t121.length co29) := (blk_cell BK118.out 1).trans rfl; have hfz93_0 := blk_frozen BK118.out 0; have hfz93_1 := blk_frozen BK118.out 1
            go_wp2_with (first | ((with_reducible refine gate_callee (f := 32) rfl ?_); refine goesL_ (some 66) rfl rfl Try.func32 (by kernel_rfl) rfl #[.agg #[.int .i64 t113, .slice Ao29 t121.length co29], .int .i64 1] rfl (by (try simp only [List.map_toArray, List.map_cons, List.map_nil]); first | done | rfl | (simp only [List.length_drop, List.length_take]; rfl)) ?_; (with_reducible refine (laws_heldGraph.calls kj50 t113 _ _ t121 1 t132 _ ?side1 ?side2 A87.out).mono ?_); (case side1 => repeat (first | exact (Kd.R_reads' HO_119001.out).2.2 | (with_reducible refine Kd.C_alloc ?_ _) | (with_reducible refine Kd.C_drewN ?_ _) | (with_reducible refine Kd.C_drew ?_))); (case side2 => exact (Kd.R_reads' HO_119001.out).2.1); rintro e w94 ⟨rfl, hb⟩; refine ⟨_, rfl, ?_⟩; have n0_ := rb HO_111001 hb; have n1_ := rb HO_119001 hb; have n2_ := rb HO_131001 hb; have n3_ := bb BK101 hb; have n4_ := bb BK110 hb; have n5_ := bb BK118 hb; have n6_ := bb BK130 hb; have n7_ := bs4 HB hb GE101 GE110 GE118 GE130; clear HO_111001; clear HO_119001; clear HO_131001; clear BK101; clear BK110; clear BK118; clear BK130; clear HB; have HO_111001 := n0_; have HO_119001 := n1_; have HO_131001 := n2_; have BK101 := n3_; have BK110 := n4_; have BK118 := n5_; have BK130 := n6_; have HB := n7_; clear n0_ n1_ n2_ n3_ n4_ n5_ n6_ n7_; (try clear hb); (try clear hb2); (try clear hk); (try clear hi)))
            go_ret
            exact ⟨by first | rfl | (simp [errW_none, errW_some] <;> rfl) | (simp [*, errW_none, errW_some] <;> rfl), by repeat (first | (with_reducible first | exact HB.out | apply below_alloc | apply pw_below_drewN | apply below_drew1 | refine below_set ?_ GE101.out | refine below_set ?_ GE110.out | refine below_set ?_ GE118.out | refine below_set ?_ GE130.out) | exact HB.out)⟩
           ·rw [if_neg c89] at H
            have c89b0 : (t132 == t120) = false := beq_eq_false_iff_ne.mpr c89; have c89b1 : (t132 != t120) = true := bne_iff_ne.mpr c89
            exact absurd ((Option.some.inj H).trans HT.out) (by decide)
      ·rw [if_neg c48] at H
       have c48b0 : (t122 == t120) = false := beq_eq_false_iff_ne.mpr c48; have c48b1 : (t122 != t120) = true := bne_iff_ne.mpr c48
       exact absurd ((Option.some.inj H).trans HT.out) (by decide)
end Go.Proofs.Yteagogcpbcickaa.G
set_option linter.unusedSimpArgs false
set_option linter.unusedVariables false
namespace Go.Proofs.Yteagogcpbcickaa.Pure
open Go.RowKit Go.Proofs.YteagogcpbcickaaW.PrintWords Go.Proofs.YteagogcpbcickaaW.PrintLast Go.Proofs.YteagogcpbcickaaW.PrintMore
theorem rounds {R : Type} (L : Nat → Nat → Option R) (n : Nat) (r : R) (step : ∀ k i, i < n → L (k + 1) i = L k (i + 1)) (stop : ∀ k, L (k + 1) n = some r) : ∀ k, n < k → L k 0 = some r := by
  have h : ∀ d i k, i + d = n → d < k → L k i = some r := by
    intro d
    induction d with
    | zero =>
      intro i k hi hk
      obtain ⟨k, rfl⟩ : ∃ m, k = m + 1 := ⟨k - 1, by omega⟩
      obtain rfl : i = n := by omega
      exact stop k
    | succ d ih =>
      intro i k hi hk
      obtain ⟨k, rfl⟩ : ∃ m, k = m + 1 := ⟨k - 1, by omega⟩
      rw [step k i (by omega)]
      exact ih (i + 1) k (by omega) (by omega)
  exact fun k hk => h n 0 k (by omega) hk
theorem rounds_to {R : Type} (L : Nat → Nat → R) (n : Nat) (p : Nat → Bool) (S E : Nat → R) (step : ∀ k i, i < n → (∀ j, j < i → p j = true) → p i = true → L (k + 1) i = L k (i + 1))
    (exit : ∀ k i, i < n → (∀ j, j < i → p j = true) → p i = false → L (k + 1) i = E k) (stop : ∀ k, (∀ j, j < n → p j = true) → L (k + 1) n = S k) :
    ∀ k, n < k → ∃ j, k - n - 1 ≤ j ∧ j < k ∧ L k 0 = if (List.range n).all p then S j else E j := by
  have h : ∀ d i k, i + d = n → d < k → (∀ j, j < i → p j = true) → ∃ j, k - d - 1 ≤ j ∧ j < k ∧ L k i = if (List.range n).all p then S j else E j := by
    intro d
    induction d with
    | zero =>
      intro i k hi hk hp
      obtain ⟨k, rfl⟩ : ∃ m, k = m + 1 := ⟨k - 1, by omega⟩
      obtain rfl : i = n := by omega
      refine ⟨k, by omega, by omega, ?_⟩
      rw [stop k hp, if_pos (List.all_eq_true.2 fun x hx => hp x (by simpa using hx))]
    | succ d ih =>
      intro i k hi hk hp
      obtain ⟨k, rfl⟩ : ∃ m, k = m + 1 := ⟨k - 1, by omega⟩
      cases hpi : p i with
      | true =>
        obtain ⟨j, h1, h2, h3⟩ := ih (i + 1) k (by omega) (by omega) (fun j hj => by
          rcases Nat.eq_or_lt_of_le (Nat.lt_succ_iff.1 hj) with e | e
          · exact e ▸ hpi
          · exact hp j e)
        exact ⟨j, by omega, by omega, (step k i (by omega) hp hpi).trans h3⟩
      | false =>
        refine ⟨k, by omega, by omega, ?_⟩
        rw [exit k i (by omega) hp hpi, if_neg (fun ha => by have := List.all_eq_true.1 ha i (by simp; omega); rw [hpi] at this; cases this)]
  exact fun k hk => h n 0 k (by omega) hk (fun j hj => absurd hj (by omega))
theorem rounds_pre {R : Type} (L : Nat → Nat → Option R) (n : Nat) (p : Nat → Bool) (r bad : R) (step : ∀ k i, i < n → (∀ j, j < i → p j = true) → p i = true → L (k + 1) i = L k (i + 1))
    (exit : ∀ k i, i < n → (∀ j, j < i → p j = true) → p i = false → L (k + 1) i = some bad) (stop : ∀ k, (∀ j, j < n → p j = true) → L (k + 1) n = some r) :
    ∀ k, n < k → L k 0 = some (if (List.range n).all p then r else bad) := by
  intro k hk
  obtain ⟨j, _, _, h⟩ := rounds_to L n p (fun _ => some r) (fun _ => some bad) step exit stop k hk
  rw [h]
  split <;> rfl
theorem w64 {n : Int} (h0 : -9223372036854775808 ≤ n) (h1 : n ≤ 9223372036854775807) : wrap64 n = n := by
  unfold wrap64
  omega
theorem w64s (i : Nat) (h : i < 4611686018427387904) : wrap64 ((i : Int) + 1) = ((i + 1 : Nat) : Int) := by
  rw [w64 (by omega) (by omega)]
  omega
theorem u64_of {a : Int} (h0 : 0 ≤ a) (h1 : a ≤ 18446744073709551615) : IntKind.u64.wrap a = a := by
  have h : IntKind.u64.wrap a = a % 18446744073709551616 := by
    simp [IntKind.wrap, IntKind.bits, IntKind.signed]
  rw [h]
  omega
theorem getD_lt {α : Type} (xs : List α) (i : Nat) (d : α) (h : i < xs.length) : xs.getD i d = xs[i] := by
  rw [List.getD_eq_getElem?_getD, List.getElem?_eq_getElem h]
  rfl
theorem set_front {α : Type} (p l : List α) (i : Nat) (v : α) (hl : p.length = l.length) (h : i < l.length) (hv : p[i]? = some v) : (p.take i ++ l.drop i).set i v = p.take (i + 1) ++ l.drop (i + 1) := by
  apply List.ext_getElem?
  intro j
  by_cases hj : j = i
  · subst hj
    rw [List.getElem?_set_self (by simp; omega), List.getElem?_append_left (by simp; omega), List.getElem?_take_of_lt (by omega), hv]
  · rw [List.getElem?_set_ne (by omega)]
    rcases Nat.lt_or_ge j i with h1 | h1
    · rw [List.getElem?_append_left (by simp; omega), List.getElem?_append_left (by simp; omega), List.getElem?_take_of_lt (by omega), List.getElem?_take_of_lt (by omega)]
    · rw [List.getElem?_append_right (by simp; omega), List.getElem?_append_right (by simp; omega)]
      simp only [List.length_take, List.getElem?_drop]
      congr 1
      omega
theorem bt_nat (s : ByteArray) (i : Nat) (h : i < s.size) : bt s (i : Int) = (s[i].toNat : Int) := by
  unfold bt
  simp [h]
theorem toList_data (s : ByteArray) : s.toList = s.data.toList := ByteArray.toList_eq s
end Go.Proofs.Yteagogcpbcickaa.Pure
set_option linter.unusedSimpArgs false
set_option linter.unusedVariables false
namespace Go.Proofs.Yteagogcpbcickaa.Pure
open Go.RowKit Go.Proofs.YteagogcpbcickaaW.PrintWords Go.Proofs.YteagogcpbcickaaW.PrintLast Go.Proofs.YteagogcpbcickaaW.PrintMore
theorem ev_some {α : Type} (r : α) : Ev (fun _ => some r) r := ⟨0, fun _ _ => rfl⟩
theorem ev_ge {α : Type} {g : Nat → Option α} {r : α} (n : Nat) (h : ∀ k, n < k → g k = some r) : Ev g r := ⟨n + 1, fun k hk => h k (by omega)⟩
theorem ev_step {α : Type} {g f : Nat → Option α} {r : α} (h : ∀ k, g (k + 1) = f k) (e : Ev f r) : Ev g r := by
  obtain ⟨K, e⟩ := e
  refine ⟨K + 1, fun k hk => ?_⟩
  obtain ⟨m, rfl⟩ : ∃ m, k = m + 1 := ⟨k - 1, by omega⟩
  rw [h m]
  exact e m (by omega)
theorem ev_bind {α β : Type} {g : Nat → Option α} {f : Nat → α → Option β} {a : α} {r : β} (h : Ev g a) (e : Ev (fun n => f n a) r) : Ev (fun n => (g n).bind (f n)) r := by
  obtain ⟨K, h⟩ := h
  obtain ⟨M, e⟩ := e
  refine ⟨K + M, fun n hn => ?_⟩
  show (g n).bind (f n) = some r
  rw [h n (by omega)]
  exact e n (by omega)
theorem ev_rounds {α : Type} {g : Nat → Option α} {r : α} (h : Ev g r) : ∃ k, g k = some r := by
  obtain ⟨K, h⟩ := h
  exact ⟨K, h K (Nat.le_refl _)⟩
end Go.Proofs.Yteagogcpbcickaa.Pure
set_option linter.unusedSimpArgs false
set_option linter.unusedVariables false
namespace Go.Proofs.Yteagogcpbcickaa.Pure
open Go.RowKit Go.Proofs.Yteagogcpbcickaa.G Go.Proofs.YteagogcpbcickaaW.PrintWords Go.Proofs.YteagogcpbcickaaW.PrintLast Go.Proofs.YteagogcpbcickaaW.PrintMore
theorem rdA_nat (L : List S79) (i : Nat) : rd_T79 L (i : Int) = L.getD i z79 := by unfold rd_T79; simp
theorem eqAndS_self (l : List S79) (hl : l.length ≤ 1099511627776) : ∀ k, l.length < k → laws_eqAndS.f k l l = some true := by
  intro k hk
  unfold laws_eqAndS.f
  rw [if_pos rfl]
  refine rounds (fun k i => laws_eqAndS.l0 k l l (i : Int)) l.length true ?_ ?_ k hk
  · intro k i hi
    simp only [laws_eqAndS.l0, laws_eqAnd.f, if_true, Option.bind_some]
    rw [if_pos (by omega), if_pos (by omega), if_pos (by omega), w64s i (by omega)]
  · intro k
    simp only [laws_eqAndS.l0]
    rw [if_neg (by omega)]
theorem eqGraph_self (a : Int) (l : List S79) (hl : l.length ≤ 1099511627776) : ∀ k, l.length < k → laws_eqGraph.f k a l a l = some true := by
  intro k hk
  unfold laws_eqGraph.f
  rw [if_pos rfl, eqAndS_self l hl k hk, Option.bind_some, if_pos rfl]
theorem and_ext {x y : S79} (h0 : x.f0 = y.f0) (h1 : x.f1 = y.f1) : x = y := by cases x; cases y; simp_all
end Go.Proofs.Yteagogcpbcickaa.Pure
set_option linter.unusedSimpArgs false
set_option linter.unusedVariables false
namespace Go.Proofs.Yteagogcpbcickaa.Pure
open Go.RowKit Go.Proofs.Yteagogcpbcickaa.G Go.Proofs.Yteagogcpbcickaa.Mp Go.Proofs.YteagogcpbcickaaW.PrintWords Go.Proofs.YteagogcpbcickaaW.PrintLast Go.Proofs.YteagogcpbcickaaW.PrintMore
theorem turn_turn {x : Int} (h : 0 ≤ x ∧ x ≤ 1048575) : Go.bits .xor .i64 (Go.bits .xor .i64 x 1) 1 = x := by
  obtain ⟨n, rfl⟩ := Int.eq_ofNat_of_zero_le h.1
  have h1 := xor_nat n 1 (by omega) (by decide)
  rw [show ((1 : Nat) : Int) = 1 from rfl] at h1
  have h2 := Nat.xor_lt_two_pow (x := n) (y := 1) (n := 20) (by omega) (by decide)
  have h3 := xor_nat (n ^^^ 1) 1 (by omega) (by decide)
  rw [show ((1 : Nat) : Int) = 1 from rfl] at h3
  rw [h1, h3, Nat.xor_assoc, Nat.xor_self, Nat.xor_zero]
def Dist (L : List S79) : Prop := ∀ i j : Nat, i < j → j < L.length → rd_T79 L (i : Int) ≠ rd_T79 L (j : Int)
theorem mhas_iff {κ : Type} [DecidableEq κ] (x : κ) : ∀ l : List (κ × Int), mhas l x = true ↔ ∃ p ∈ l, p.1 = x := by
  intro l
  induction l with
  | nil => simp [mhas]
  | cons a r ih =>
    unfold mhas
    by_cases h : a.1 = x
    · rw [if_pos h]; simp [h]
    · rw [if_neg h, ih]; simp [h]
theorem mget_of {κ : Type} [DecidableEq κ] (x : κ) (v : Int) : ∀ l : List (κ × Int), (∀ q ∈ l, q.1 = x → q.2 = v) → (∃ p ∈ l, p.1 = x) → mget l x = v := by
  intro l
  induction l with
  | nil => intro _ h; obtain ⟨p, hp, _⟩ := h; cases hp
  | cons a r ih =>
    intro h1 h2
    unfold mget
    by_cases h : a.1 = x
    · rw [if_pos h]; exact h1 a (by simp) h
    · rw [if_neg h]
      refine ih (fun q hq => h1 q (by simp [hq])) ?_
      obtain ⟨p, hp, he⟩ := h2
      rcases List.mem_cons.1 hp with rfl | hp
      · exact absurd he h
      · exact ⟨p, hp, he⟩
theorem mem_at (ins : Int) (L : List S79) (p : S79 × Int) : p ∈ atMap ins L ↔ ∃ i : Nat, i < L.length ∧ p = (rd_T79 L (i : Int), 2 * (ins + 1 + (i : Int))) := by
  simp only [atMap, List.mem_reverse, List.mem_map, List.mem_range]
  constructor
  · rintro ⟨i, hi, rfl⟩; exact ⟨i, hi, rfl⟩
  · rintro ⟨i, hi, rfl⟩; exact ⟨i, hi, rfl⟩
theorem at_found {ins : Int} {L : List S79} (hD : Dist L) {i : Nat} (hi : i < L.length) {K : S79} (h : rd_T79 L (i : Int) = K) : mhas (atMap ins L) K = true ∧ mget (atMap ins L) K = 2 * (ins + 1 + (i : Int)) := by
  have hp : (K, 2 * (ins + 1 + (i : Int))) ∈ atMap ins L := (mem_at ins L _).2 ⟨i, hi, by rw [h]⟩
  refine ⟨(mhas_iff K _).2 ⟨_, hp, rfl⟩, mget_of K _ _ (fun q hq he => ?_) ⟨_, hp, rfl⟩⟩
  obtain ⟨j, hj, rfl⟩ := (mem_at ins L q).1 hq
  have : i = j := by
    rcases Nat.lt_trichotomy i j with h1 | h1 | h1
    · exact absurd (h.trans he.symm) (hD i j h1 hj)
    · exact h1
    · exact absurd (he.trans h.symm) (hD j i h1 hi)
  rw [this]
theorem at_none {ins : Int} {L : List S79} {K : S79} (h : ∀ i : Nat, i < L.length → rd_T79 L (i : Int) ≠ K) : mhas (atMap ins L) K = false := by
  rw [Bool.eq_false_iff]
  intro hm
  obtain ⟨p, hp, he⟩ := (mhas_iff K _).1 hm
  obtain ⟨i, hi, rfl⟩ := (mem_at ins L p).1 hp
  exact h i hi he
theorem Dist.app {L : List S79} {K : S79} (hD : Dist L) (h : ∀ i : Nat, i < L.length → rd_T79 L (i : Int) ≠ K) : Dist (L ++ [K]) := by
  intro i j hij hj
  rw [List.length_append, List.length_singleton] at hj
  rw [rd_app L K i (by omega)]
  by_cases hjl : j < L.length
  · rw [rd_app L K j hjl]; exact hD i j hij hjl
  · have : j = L.length := by omega
    subst this
    rw [rd_last]
    exact h i hij
theorem andR_dist {ins : Int} {L : List S79} (hD : Dist L) (x y : Int) : Dist (andR ins L x y).1 := by
  unfold andR
  split; exact hD
  split; exact hD
  split; exact hD
  split; exact hD
  split; exact hD
  split; exact hD
  split; exact hD
  rename_i hm
  split; exact hD
  refine hD.app fun i hi he => hm (at_found hD hi he).1
theorem orR_dist {ins : Int} {L : List S79} (hD : Dist L) (x y : Int) : Dist (orR ins L x y).1 := andR_dist hD _ _
theorem spec_find_ev {ins : Int} {L : List S79} (hin : 0 ≤ ins ∧ ins ≤ 1000) (hL : L.length ≤ 3000) (hD : Dist L) (a b : Int) :
    Ev (fun k => spec_l07And.l0 k a b 0 ins L) (if mhas (atMap ins L) ⟨a, b⟩ = true then (ins, L, mget (atMap ins L) ⟨a, b⟩) else if 3000 ≤ L.length then (ins, L, -1) else (ins, L ++ [⟨a, b⟩], 2 * (ins + 1 + L.length))) := by
  have hs : ∀ d i, i + d = L.length → (∀ j : Nat, j < i → rd_T79 L (j : Int) ≠ ⟨a, b⟩) → Ev (fun k => spec_l07And.l0 k a b (i : Int) ins L) (if mhas (atMap ins L) ⟨a, b⟩ = true then (ins, L, mget (atMap ins L) ⟨a, b⟩) else if 3000 ≤ L.length then (ins, L, -1) else (ins, L ++ [⟨a, b⟩], 2 * (ins + 1 + L.length))) := by
    intro d
    induction d with
    | zero =>
      intro i hi hn
      rw [at_none (fun j hj => hn j (by omega)), if_neg (by decide)]
      by_cases h3 : 3000 ≤ L.length
      · rw [if_pos h3]
        refine ev_step (f := fun _ => some (ins, L, -1)) (fun k => ?_) (ev_some _)
        simp only [spec_l07And.l0]
        rw [if_neg (by omega), if_pos (by omega)]
      · rw [if_neg h3]
        refine ev_step (f := fun _ => some (ins, L ++ [⟨a, b⟩], 2 * (ins + 1 + L.length))) (fun k => ?_) (ev_some _)
        simp only [spec_l07And.l0]
        rw [if_neg (by omega), if_neg (by omega), if_pos (by omega), Option.bind_some, List.length_append, List.length_singleton, w64 (n := ins + ((L.length + 1 : Nat) : Int)) (by omega) (by omega), w64 (by omega) (by omega), show 2 * (ins + ((L.length + 1 : Nat) : Int)) = 2 * (ins + 1 + L.length) from by omega]
    | succ d ih =>
      intro i hi hn
      by_cases he : rd_T79 L (i : Int) = ⟨a, b⟩
      · obtain ⟨h1, h2⟩ := at_found (ins := ins) hD (by omega : i < L.length) he
        rw [h1, if_pos rfl, h2]
        refine ev_step (f := fun _ => some (ins, L, 2 * (ins + 1 + (i : Int)))) (fun k => ?_) (ev_some _)
        simp only [spec_l07And.l0]
        rw [if_pos (by omega), if_pos (by omega), if_pos (by rw [he]), if_pos (by rw [he]), w64 (n := ins + 1) (by omega) (by omega), w64 (n := ins + 1 + (i : Int)) (by omega) (by omega), w64 (by omega) (by omega)]
      · refine ev_step (f := fun k => spec_l07And.l0 k a b ((i + 1 : Nat) : Int) ins L) (fun k => ?_) (ih (i + 1) (by omega) (fun j hj => ?_))
        · simp only [spec_l07And.l0]
          rw [if_pos (by omega), if_pos (by omega), w64s i (by omega)]
          by_cases h0 : (rd_T79 L (i : Int)).f0 = a
          · rw [if_pos h0, if_neg (fun h1 => he (and_ext h0 h1))]
          · rw [if_neg h0]
        · rcases Nat.lt_succ_iff_lt_or_eq.1 hj with h | rfl
          · exact hn j h
          · exact he
  have := hs L.length 0 (by omega) (fun j hj => by omega)
  exact this
theorem spec_and_le {ins : Int} {L : List S79} (hin : 0 ≤ ins ∧ ins ≤ 1000) (hL : L.length ≤ 3000) (hD : Dist L) {a b : Int} (ha : 0 ≤ a ∧ a ≤ 1048575) (hb : 0 ≤ b ∧ b ≤ 1048575) (hab : a ≤ b) :
    Ev (fun k => spec_l07And.f k ins L a b) (if a = 0 then (ins, L, 0) else if a = Go.bits .xor .i64 b 1 then (ins, L, 0) else if a = 1 then (ins, L, b) else if a = b then (ins, L, b) else
      if mhas (atMap ins L) ⟨a, b⟩ = true then (ins, L, mget (atMap ins L) ⟨a, b⟩) else if 3000 ≤ L.length then (ins, L, -1) else (ins, L ++ [⟨a, b⟩], 2 * (ins + 1 + L.length))) := by
  have hj : ∀ t : Bool, t = true → Ev (fun k => spec_l07And.j0 k a b t ins L) (ins, L, 0) := by
    rintro _ rfl
    refine ev_step (f := fun _ => some (ins, L, 0)) (fun k => ?_) (ev_some _)
    simp only [spec_l07And.j0]
    exact if_pos trivial
  by_cases h0 : a = 0
  · rw [if_pos h0]
    refine ev_step (fun k => ?_) (hj true rfl)
    simp only [spec_l07And.f]
    rw [if_neg (by omega), if_pos h0]
  rw [if_neg h0]
  by_cases h1 : a = Go.bits .xor .i64 b 1
  · rw [if_pos h1]
    refine ev_step (fun k => ?_) (hj (a == Go.bits .xor .i64 b 1) (beq_iff_eq.2 h1))
    simp only [spec_l07And.f, spec_l07Turn.f, Option.bind_some]
    rw [if_neg (by omega), if_neg h0]
  rw [if_neg h1]
  refine ev_step (f := fun k => spec_l07And.j0 k a b false ins L) (fun k => ?_) ?_
  · simp only [spec_l07And.f, spec_l07Turn.f, Option.bind_some]
    rw [if_neg (by omega), if_neg h0, beq_eq_false_iff_ne.2 h1]
  by_cases h2 : a = 1
  · rw [if_pos h2]
    refine ev_step (f := fun _ => some (ins, L, b)) (fun k => ?_) (ev_some _)
    simp only [spec_l07And.j0]
    rw [if_neg (by decide), if_pos h2]
  rw [if_neg h2]
  by_cases h3 : a = b
  · rw [if_pos h3]
    refine ev_step (f := fun _ => some (ins, L, b)) (fun k => ?_) (ev_some _)
    simp only [spec_l07And.j0]
    rw [if_neg (by decide), if_neg h2, if_pos h3]
  rw [if_neg h3]
  refine ev_step (fun k => ?_) (spec_find_ev hin hL hD a b)
  simp only [spec_l07And.j0]
  rw [if_neg (by decide), if_neg h2, if_neg h3]
theorem spec_and_ev {ins : Int} {L : List S79} (hin : 0 ≤ ins ∧ ins ≤ 1000) (hL : L.length ≤ 3000) (hD : Dist L) {x y : Int} (hx : 0 ≤ x ∧ x ≤ 1048575) (hy : 0 ≤ y ∧ y ≤ 1048575) :
    Ev (fun k => spec_l07And.f k ins L x y) (ins, (andR ins L x y).1, (andR ins L x y).2) := by
  have tx := turn_turn hx
  have ty := turn_turn hy
  by_cases hxy : x ≤ y
  · have e := spec_and_le hin hL hD hx hy hxy
    have : (ins, (andR ins L x y).1, (andR ins L x y).2) = (if x = 0 then (ins, L, 0) else if x = Go.bits .xor .i64 y 1 then (ins, L, 0) else if x = 1 then (ins, L, y) else if x = y then (ins, L, y) else
      if mhas (atMap ins L) ⟨x, y⟩ = true then (ins, L, mget (atMap ins L) ⟨x, y⟩) else if 3000 ≤ L.length then (ins, L, -1) else (ins, L ++ [⟨x, y⟩], 2 * (ins + 1 + L.length))) := by
      unfold andR
      rw [show min x y = x by omega, show max x y = y by omega]
      by_cases h0 : x = 0
      · simp only [if_pos h0]
      simp only [if_neg h0]
      rw [if_neg (show ¬ y = 0 by omega)]
      by_cases h1 : x = Go.bits .xor .i64 y 1
      · simp only [if_pos h1]
      simp only [if_neg h1]
      by_cases h2 : x = 1
      · simp only [if_pos h2]
      simp only [if_neg h2]
      rw [if_neg (show ¬ y = 1 by omega)]
      by_cases h3 : x = y
      · simp only [if_pos h3]; rw [h3]
      simp only [if_neg h3]
      split
      · rfl
      · split <;> rfl
    rw [this]
    exact e
  · have e := spec_and_le hin hL hD hy hx (by omega)
    have : (ins, (andR ins L x y).1, (andR ins L x y).2) = (if y = 0 then (ins, L, 0) else if y = Go.bits .xor .i64 x 1 then (ins, L, 0) else if y = 1 then (ins, L, x) else if y = x then (ins, L, x) else
      if mhas (atMap ins L) ⟨y, x⟩ = true then (ins, L, mget (atMap ins L) ⟨y, x⟩) else if 3000 ≤ L.length then (ins, L, -1) else (ins, L ++ [⟨y, x⟩], 2 * (ins + 1 + L.length))) := by
      unfold andR
      rw [show min x y = y by omega, show max x y = x by omega]
      rw [if_neg (show ¬ x = 0 by omega)]
      by_cases h0 : y = 0
      · simp only [if_pos h0]
      simp only [if_neg h0]
      by_cases h1 : y = Go.bits .xor .i64 x 1
      · rw [if_pos (show x = Go.bits .xor .i64 y 1 by rw [h1, tx]), if_pos h1]
      rw [if_neg (fun h => h1 (show y = Go.bits .xor .i64 x 1 by rw [h, ty])), if_neg h1]
      rw [if_neg (show ¬ x = 1 by omega), if_neg (show ¬ x = y by omega), if_neg (show ¬ y = x by omega)]
      by_cases h2 : y = 1
      · rw [if_pos h2, if_pos h2]
      rw [if_neg h2, if_neg h2]
      split
      · rfl
      · split <;> rfl
    rw [this]
    refine ev_step (f := fun k => spec_l07And.f k ins L y x) (fun k => ?_) e
    simp only [spec_l07And.f]
    rw [if_pos (by omega)]
    cases spec_l07And.f k ins L y x <;> rfl
end Go.Proofs.Yteagogcpbcickaa.Pure
set_option linter.unusedSimpArgs false
set_option linter.unusedVariables false
namespace Go.Proofs.Yteagogcpbcickaa.Pure
open Go.RowKit Go.Proofs.Yteagogcpbcickaa.G Go.Proofs.Yteagogcpbcickaa.Mp Go.Proofs.YteagogcpbcickaaW.PrintWords Go.Proofs.YteagogcpbcickaaW.PrintLast Go.Proofs.YteagogcpbcickaaW.PrintMore
def markA (n : Nat) : List S79 := (List.range n).map fun i : Nat => ⟨((1 + 2 * i : Nat) : Int), ((1 + 2 * i + 1 : Nat) : Int)⟩
theorem markA_length (n : Nat) : (markA n).length = n := by simp [markA]
theorem rd_set (l : List S79) (i : Nat) (v : S79) (hi : i < l.length) : rd_T79 (l.set i v) (i : Int) = v := by
  rw [rdA_nat, getD_lt _ i _ (by simpa using hi)]
  simp
theorem markAndS_eq (l : List S79) (hl : l.length ≤ 1099511627776) : ∀ k, l.length < k → laws_markAndS.f k l 1 = some (((1 + 2 * l.length : Nat) : Int), markA l.length) := by
  intro k hk
  unfold laws_markAndS.f
  have h := rounds (fun k i => laws_markAndS.l0 k ((markA l.length).take i ++ l.drop i) ((1 + 2 * i : Nat) : Int) (i : Int)) l.length (((1 + 2 * l.length : Nat) : Int), markA l.length) ?_ ?_ k hk
  · simpa using h
  · intro k i hi
    have hlen : ((markA l.length).take i ++ l.drop i).length = l.length := by simp [markA]; omega
    simp only [laws_markAndS.l0]
    rw [if_pos (by rw [hlen]; omega), if_pos (by omega), Option.bind_some, Int.toNat_natCast, rd_set _ _ _ (by rw [hlen]; exact hi), List.set_set, w64s i (by omega), w64s (1 + 2 * i) (by omega), w64s (1 + 2 * i + 1) (by omega), set_front (markA l.length) l i _ (by simp [markA]) hi (by simp [markA, hi])]
    rfl
  · intro k
    simp only [laws_markAndS.l0]
    rw [if_neg (by simp [markA]), List.take_of_length_le (by simp [markA])]
    simp
theorem rd_markA (n i : Nat) (hi : i < n) : rd_T79 (markA n) (i : Int) = ⟨((1 + 2 * i : Nat) : Int), ((1 + 2 * i + 1 : Nat) : Int)⟩ := by
  rw [rdA_nat, getD_lt _ i _ (by rw [markA_length]; exact hi)]
  simp [markA]
theorem heldAndS_eq (n : Nat) (hn : n ≤ 1099511627776) : ∀ k, n < k → laws_heldAndS.f k (markA n) 1 = some ((1 + 2 * n : Nat) : Int) := by
  intro k hk
  unfold laws_heldAndS.f
  refine rounds (fun k i => laws_heldAndS.l0 k (markA n) ((1 + 2 * i : Nat) : Int) (i : Int)) n _ ?_ ?_ k hk
  · intro k i hi
    simp only [laws_heldAndS.l0]
    rw [if_pos (by rw [markA_length]; omega), if_pos (by omega), rd_markA n i hi, w64s i (by omega), w64s (1 + 2 * i) (by omega), w64s (1 + 2 * i + 1) (by omega)]
    simp only [if_true]
    rfl
  · intro k
    simp only [laws_heldAndS.l0]
    rw [if_neg (by rw [markA_length]; omega)]
theorem markGraph_ev (a : Int) (l : List S79) (hl : l.length ≤ 1099511627776) : Ev (fun k => laws_markGraph.f k a l 1) (((1 + 2 * l.length : Nat) : Int), markA l.length) := by
  unfold laws_markGraph.f
  exact ev_bind (ev_ge l.length (markAndS_eq l hl)) (ev_some _)
theorem heldGraph_ev (a : Int) (n : Nat) (hn : n ≤ 1099511627776) : Ev (fun k => laws_heldGraph.f k a (markA n) 1) ((1 + 2 * n : Nat) : Int) := by
  unfold laws_heldGraph.f
  refine ev_bind (ev_ge n (heldAndS_eq n hn)) ?_
  rw [if_neg (by omega)]
  exact ev_some _
theorem spec_or_ev {ins : Int} {L : List S79} (hin : 0 ≤ ins ∧ ins ≤ 1000) (hL : L.length ≤ 3000) (hD : Dist L) {x y : Int} (hx : 0 ≤ x ∧ x ≤ 1048575) (hy : 0 ≤ y ∧ y ≤ 1048575) :
    Ev (fun k => spec_l07Or.f k ins L x y) (ins, (orR ins L x y).1, (orR ins L x y).2) := by
  unfold spec_l07Or.f spec_l07Turn.f
  simp only [Option.bind_some]
  refine ev_bind (spec_and_ev hin hL hD (turn_bd hx) (turn_bd hy)) ?_
  unfold orR
  by_cases h : (andR ins L (Go.bits .xor .i64 x 1) (Go.bits .xor .i64 y 1)).2 < 0
  · simp only [if_pos h]; exact ev_some _
  · simp only [if_neg h, Option.bind_some]; exact ev_some _
theorem spec_if_ev {ins : Int} {L : List S79} (hin : 0 ≤ ins ∧ ins ≤ 1000) (hL : L.length ≤ 3000) (hD : Dist L) {x p q : Int} (hx : 0 ≤ x ∧ x ≤ 1048575) (hp : 0 ≤ p ∧ p ≤ 1048575) (hq : 0 ≤ q ∧ q ≤ 1048575) :
    Ev (fun k => spec_l07If.f k ins L x p q) (ins, (pickR ins L x p q).1, (pickR ins L x p q).2) := by
  have b1 := andR_bd hin hL hx hp
  have d1 := andR_dist (ins := ins) hD x p
  have b2 := andR_bd hin b1.2 (turn_bd hx) hq
  have d2 := andR_dist (ins := ins) d1 (Go.bits .xor .i64 x 1) q
  unfold spec_l07If.f spec_l07Turn.f
  refine ev_bind (spec_and_ev hin hL hD hx hp) ?_
  unfold pickR
  by_cases h : (andR ins L x p).2 < 0
  · simp only [if_pos h]; exact ev_some _
  simp only [if_neg h, Option.bind_some]
  refine ev_bind (spec_and_ev hin b1.2 d1 (turn_bd hx) hq) ?_
  by_cases h2 : (andR ins (andR ins L x p).1 (Go.bits .xor .i64 x 1) q).2 < 0
  · simp only [if_pos h2]; exact ev_some _
  simp only [if_neg h2]
  refine ev_bind (spec_or_ev hin b2.2 d2 ⟨by omega, b1.1.2⟩ ⟨by omega, b2.1.2⟩) ?_
  exact ev_some _
end Go.Proofs.Yteagogcpbcickaa.Pure
set_option linter.unusedSimpArgs false
set_option linter.unusedVariables false
namespace Go.Proofs.Yteagogcpbcickaa.Pure
open Go.RowKit Go.Proofs.Yteagogcpbcickaa.G Go.Proofs.YteagogcpbcickaaW.PrintWords Go.Proofs.YteagogcpbcickaaW.PrintLast Go.Proofs.YteagogcpbcickaaW.PrintMore
theorem szTable_eq (N : Int) (s : ByteArray) (hs : s.size ≤ maxLen) : laws_szTable.f N s 1048576 = some (if (s.size : Int) > 1048576 then -1 else 1048576 - (s.size : Int)) := by
  unfold laws_szTable.f
  unfold maxLen at hs
  rw [w64 (by omega) (by omega)]
  split <;> split <;> first | rfl | omega
end Go.Proofs.Yteagogcpbcickaa.Pure
set_option linter.unusedSimpArgs false
set_option linter.unusedVariables false
namespace Go.Proofs.Yteagogcpbcickaa.Pure
open Go.RowKit Go.Proofs.Yteagogcpbcickaa.G Go.Proofs.YteagogcpbcickaaW.PrintWords Go.Proofs.YteagogcpbcickaaW.PrintLast Go.Proofs.YteagogcpbcickaaW.PrintMore
theorem rounds_all {R : Type} (L : Nat → Nat → Option R) (n : Nat) (p : Nat → Bool) (r bad : R) (step : ∀ k i, i < n → p i = true → L (k + 1) i = L k (i + 1)) (exit : ∀ k i, i < n → p i = false → L (k + 1) i = some bad)
    (stop : ∀ k, L (k + 1) n = some r) : ∀ k, n < k → L k 0 = some (if (List.range n).all p then r else bad) :=
  rounds_pre L n p r bad (fun k i hi _ hp => step k i hi hp) (fun k i hi _ hp => exit k i hi hp) (fun k _ => stop k)
def sgn (b : Bool) : Int := if b then 49 else 48
def ones (l : List Bool) : ByteArray := ⟨(l.map fun b => if b then (49 : UInt8) else 48).toArray⟩
theorem ones_size (l : List Bool) : (ones l).size = l.length := by
  show (l.map fun b => if b then (49 : UInt8) else 48).toArray.size = _
  simp
theorem bt_ones (l : List Bool) (i : Nat) (h : i < l.length) : bt (ones l) (i : Int) = sgn (l.getD i false) := by
  have hs : i < (ones l).size := by rw [ones_size]; exact h
  rw [bt_nat _ i hs, getD_lt l i false h]
  have e : (ones l)[i] = if l[i] then (49 : UInt8) else 48 := by
    have h1 : (ones l).data.toList[i]? = some (ones l)[i] := by
      rw [List.getElem?_eq_getElem (by simpa using hs)]
      rfl
    have h2 : (ones l).data.toList[i]? = some (if l[i] then (49 : UInt8) else 48) := by simp [ones, h]
    exact Option.some.inj (h1.symm.trans h2)
  rw [e]
  unfold sgn
  cases l[i] <;> rfl
theorem ones_inj {a b : List Bool} (h : ones a = ones b) : a = b := by
  unfold ones at h
  injection h with h
  have h2 : (a.map fun b => if b then (49 : UInt8) else 48) = b.map fun b => if b then (49 : UInt8) else 48 := by simpa using congrArg Array.toList h
  exact List.map_inj_right (fun x y hxy => by revert hxy; cases x <;> cases y <;> decide) |>.1 h2
theorem data_inj {a b : ByteArray} (h : a.data.toList = b.data.toList) : a = b := by
  cases a; cases b
  simp only [ByteArray.mk.injEq]
  exact Array.toList_inj.1 h
theorem toList_inj {a b : ByteArray} : a.toList = b.toList ↔ a = b := by
  rw [toList_data, toList_data]
  exact ⟨data_inj, fun h => h ▸ rfl⟩
def tok (N : Int) (s : ByteArray) : Bool := decide (0 ≤ N ∧ N ≤ 12 ∧ (s.size : Int) = 2 ^ N.toNat) && (List.range s.size).all fun (i : Nat) => bt s (i : Int) == 48 || bt s (i : Int) == 49
theorem tok_form {N : Int} {s : ByteArray} (h : tok N s = true) : ∃ (n : Nat) (l : List Bool), N = (n : Int) ∧ n ≤ 12 ∧ l.length = 2 ^ n ∧ s = ones l := by
  unfold tok at h
  simp only [Bool.and_eq_true, decide_eq_true_eq] at h
  obtain ⟨⟨h0, h1, h2⟩, h3⟩ := h
  obtain ⟨n, rfl⟩ := Int.eq_ofNat_of_zero_le h0
  have h2' : s.size = 2 ^ n := by
    rw [Int.toNat_natCast] at h2
    exact_mod_cast h2
  refine ⟨n, (List.range s.size).map fun (i : Nat) => decide (bt s (i : Int) = 49), rfl, by omega, by simp [h2'], ?_⟩
  apply data_inj
  apply List.ext_getElem?
  intro i
  rcases Nat.lt_or_ge i s.size with hi | hi
  · have hb := List.all_eq_true.1 h3 i (by simpa using hi)
    have e : s.data.toList[i]? = some s[i] := by
      rw [List.getElem?_eq_getElem (by simpa using hi)]
      rfl
    rw [e]
    have hv := bt_nat s i hi
    simp only [ones, List.map_map, List.getElem?_map, List.getElem?_range hi, Option.map_some, Function.comp]
    congr 1
    simp only [Bool.or_eq_true, beq_iff_eq] at hb
    have hd : ∀ c : UInt8, ((c.toNat : Int) = 48 → c = 48) ∧ ((c.toNat : Int) = 49 → c = 49) := fun c => ⟨fun h => UInt8.toNat_inj.1 (by have : c.toNat = 48 := by omega
                                                                                                                                         rw [this]; rfl), fun h => UInt8.toNat_inj.1 (by have : c.toNat = 49 := by omega
                                                                                                                                                                                         rw [this]; rfl)⟩
    rcases hb with hb | hb
    · have hc := (hd s[i]).1 (hv ▸ hb)
      simp [hb, hc]
    · have hc := (hd s[i]).2 (hv ▸ hb)
      simp [hb, hc]
  · rw [List.getElem?_eq_none (by simpa using hi), List.getElem?_eq_none (by simp [ones]; exact hi)]
theorem tok_ones {n : Nat} {l : List Bool} (hn : n ≤ 12) (hl : l.length = 2 ^ n) : tok (n : Int) (ones l) = true := by
  unfold tok
  rw [Bool.and_eq_true]
  refine ⟨decide_eq_true ⟨by omega, by omega, ?_⟩, List.all_eq_true.2 fun i hi => ?_⟩
  · rw [ones_size, hl, Int.toNat_natCast]
    norm_cast
  · have hi' : i < l.length := by rw [ones_size] at hi; simpa using hi
    rw [bt_ones l i hi']
    unfold sgn
    cases l.getD i false <;> rfl
theorem pow12 {n : Nat} (hn : n ≤ 12) : 2 ^ n ≤ 4096 := Nat.pow_le_pow_right (by decide) hn
theorem pow62 {n : Nat} (hn : n ≤ 61) : (2 : Int) ^ n ≤ 2305843009213693952 := by
  have h : 2 ^ n ≤ 2 ^ 61 := Nat.pow_le_pow_right (by decide) hn
  have h2 : ((2 ^ n : Nat) : Int) ≤ ((2 ^ 61 : Nat) : Int) := by exact_mod_cast h
  have h3 : ((2 ^ n : Nat) : Int) = (2 : Int) ^ n := by norm_cast
  omega
theorem pow_pos_ (n : Nat) : (1 : Int) ≤ 2 ^ n := by
  have h : 1 ≤ 2 ^ n := Nat.one_le_two_pow
  have h2 : ((1 : Nat) : Int) ≤ ((2 ^ n : Nat) : Int) := by exact_mod_cast h
  have h3 : ((2 ^ n : Nat) : Int) = (2 : Int) ^ n := by norm_cast
  omega
theorem pow2_eq (n : Nat) (hn : n ≤ 60) : ∀ k, n < k → spec_l01Pow2.f k (n : Int) = some ((2 : Int) ^ n) := by
  intro k hk
  unfold spec_l01Pow2.f
  refine rounds (fun k i => spec_l01Pow2.l0 k (n : Int) ((2 : Int) ^ i) (i : Int)) n _ ?_ ?_ k hk
  · intro k i hi
    simp only [spec_l01Pow2.l0]
    have h1 := pow62 (n := i + 1) (by omega)
    have h2 := pow_pos_ i
    rw [if_pos (by omega), w64s i (by omega), show (2 : Int) * 2 ^ i = 2 ^ (i + 1) from by rw [Int.pow_succ]; omega, w64 (by have := pow_pos_ (i + 1); omega) (by omega)]
  · intro k
    simp only [spec_l01Pow2.l0]
    rw [if_neg (by omega)]
theorem spec_TableOk_eq (N : Int) (s : ByteArray) (hs : s.size ≤ 1099511627776) : ∀ k, s.size + 20 < k → spec_TableOk.f k N s = some (tok N s) := by
  intro k hk
  obtain ⟨k, rfl⟩ : ∃ m, k = m + 1 := ⟨k - 1, by omega⟩
  unfold spec_TableOk.f spec_l01In.f
  by_cases h0 : N ≥ 0
  · rw [if_pos h0]
    by_cases h1 : N ≤ 12
    · obtain ⟨n, rfl⟩ := Int.eq_ofNat_of_zero_le h0
      simp only [h1, decide_true, Option.bind_some, if_true]
      rw [pow2_eq n (by omega) (k + 1) (by omega)]
      simp only [Option.bind_some, spec_TableOk.j0]
      by_cases h2 : (s.size : Int) = 2 ^ n
      · rw [if_neg (by simp [h2])]
        have h := rounds_all (fun k i => spec_TableOk.l0 k (i : Int) (n : Int) s) s.size (fun i => bt s i == 48 || bt s i == 49) true false ?_ ?_ ?_ k (by omega)
        · refine h.trans ?_
          unfold tok
          rw [decide_eq_true (⟨h0, h1, by rw [Int.toNat_natCast]; exact h2⟩ : 0 ≤ (n : Int) ∧ (n : Int) ≤ 12 ∧ (s.size : Int) = 2 ^ (n : Int).toNat), Bool.true_and]
          congr 1
          split <;> simp_all
        · intro k i hi hp
          simp only [spec_TableOk.l0]
          simp only [Bool.or_eq_true, beq_iff_eq] at hp
          rw [if_pos (by omega), if_pos (by omega), w64s i (by omega)]
          rcases hp with hp | hp
          · rw [if_pos hp]
          · rw [if_neg (by omega), if_pos hp]
        · intro k i hi hp
          simp only [spec_TableOk.l0]
          simp only [Bool.or_eq_false_iff, beq_eq_false_iff_ne] at hp
          rw [if_pos (by omega), if_pos (by omega), if_neg hp.1, if_neg hp.2]
        · intro k
          simp only [spec_TableOk.l0]
          rw [if_neg (by omega)]
      · rw [if_pos (by simpa using h2)]
        unfold tok
        rw [decide_eq_false (by rintro ⟨_, _, h⟩; rw [Int.toNat_natCast] at h; exact h2 h), Bool.false_and]
    · simp only [h1, decide_false, Option.bind_some]
      simp only [Bool.false_eq_true, if_false, spec_TableOk.j0, if_true]
      unfold tok
      rw [decide_eq_false (by omega), Bool.false_and]
  · rw [if_neg h0]
    simp only [Option.bind_some, Bool.false_eq_true, if_false, spec_TableOk.j0, if_true]
    unfold tok
    rw [decide_eq_false (by omega), Bool.false_and]
theorem shl_eq (n : Nat) (hn : n ≤ 60) : shl .i64 1 (n : Int) = (2 : Int) ^ n := by
  unfold shl
  rw [Int.toNat_natCast, show min n IntKind.i64.bits = n from by simp [IntKind.bits]; omega, Int.one_mul, IntKind.wrap_i64]
  have h1 := pow62 (n := n) (by omega)
  have h2 := pow_pos_ n
  omega
theorem impl_TableOk_eq (N : Int) (s : ByteArray) (hs : s.size ≤ 1099511627776) : ∀ k, s.size + 20 < k → impl_TableOk.f k N s = some (tok N s) := by
  intro k hk
  obtain ⟨k, rfl⟩ : ∃ m, k = m + 1 := ⟨k - 1, by omega⟩
  unfold impl_TableOk.f impl_within.f
  by_cases h0 : N ≥ 0
  · rw [if_pos h0]
    by_cases h1 : N ≤ 12
    · obtain ⟨n, rfl⟩ := Int.eq_ofNat_of_zero_le h0
      simp only [h1, decide_true, Option.bind_some, if_true]
      rw [u64_of (by omega) (by omega), if_pos (by omega), shl_eq n (by omega)]
      simp only [impl_TableOk.j0]
      by_cases h2 : (s.size : Int) = 2 ^ n
      · rw [if_neg (by simp [h2])]
        have h := rounds_all (fun k i => impl_TableOk.l0 k (s.size : Int) (i : Int) (n : Int) s) s.size (fun i => bt s i == 48 || bt s i == 49) true false ?_ ?_ ?_ k (by omega)
        · refine h.trans ?_
          unfold tok
          rw [decide_eq_true (⟨h0, h1, by rw [Int.toNat_natCast]; exact h2⟩ : 0 ≤ (n : Int) ∧ (n : Int) ≤ 12 ∧ (s.size : Int) = 2 ^ (n : Int).toNat), Bool.true_and]
          congr 1
          split <;> simp_all
        · intro k i hi hp
          simp only [impl_TableOk.l0]
          simp only [Bool.or_eq_true, beq_iff_eq] at hp
          rw [if_pos (by omega), if_pos (by omega), if_pos (by omega), w64s i (by omega)]
          rcases hp with hp | hp
          · rw [if_pos hp]
          · rw [if_neg (by omega), if_pos hp]
        · intro k i hi hp
          simp only [impl_TableOk.l0]
          simp only [Bool.or_eq_false_iff, beq_eq_false_iff_ne] at hp
          rw [if_pos (by omega), if_pos (by omega), if_pos (by omega), if_neg hp.1, if_neg hp.2]
        · intro k
          simp only [impl_TableOk.l0]
          rw [if_neg (by omega)]
      · rw [if_pos (by simpa using h2)]
        unfold tok
        rw [decide_eq_false (by rintro ⟨_, _, h⟩; rw [Int.toNat_natCast] at h; exact h2 h), Bool.false_and]
    · simp only [h1, decide_false, Option.bind_some]
      simp only [Bool.false_eq_true, if_false, impl_TableOk.j0, if_true]
      unfold tok
      rw [decide_eq_false (by omega), Bool.false_and]
  · rw [if_neg h0]
    simp only [Option.bind_some, Bool.false_eq_true, if_false, impl_TableOk.j0, if_true]
    unfold tok
    rw [decide_eq_false (by omega), Bool.false_and]
end Go.Proofs.Yteagogcpbcickaa.Pure
set_option linter.unusedSimpArgs false
set_option linter.unusedVariables false
namespace Go.Proofs.Yteagogcpbcickaa.Pure
open Go.RowKit Go.Proofs.Yteagogcpbcickaa.G Go.Proofs.YteagogcpbcickaaW.PrintWords Go.Proofs.YteagogcpbcickaaW.PrintLast Go.Proofs.YteagogcpbcickaaW.PrintMore
def flags (s : ByteArray) : List Bool := s.data.toList.map fun c => c == 49
theorem flags_ones (l : List Bool) : flags (ones l) = l := by
  unfold flags
  simp only [ones, List.map_map]
  exact (List.map_congr_left (fun b _ => by cases b <;> rfl)).trans (List.map_id l)
theorem range_getD (l : List Bool) (f : Bool → Bool) : (List.range l.length).map (fun i => f (l.getD i false)) = l.map f := by
  apply List.ext_getElem
  · simp
  · intro i h1 h2
    simp only [List.getElem_map, List.getElem_range]
    rw [getD_lt l i false (by simpa using h1)]
end Go.Proofs.Yteagogcpbcickaa.Pure
set_option linter.unusedSimpArgs false
set_option linter.unusedVariables false
namespace Go.Proofs.Yteagogcpbcickaa.Pure
open Go.RowKit Go.Proofs.Yteagogcpbcickaa.G Go.Proofs.YteagogcpbcickaaW.PrintWords Go.Proofs.YteagogcpbcickaaW.PrintLast Go.Proofs.YteagogcpbcickaaW.PrintMore
theorem ones_data (l : List Bool) : (ones l).data.toList = l.map fun b => if b then (49 : UInt8) else 48 := by simp [ones]
theorem contains1 (l : List Bool) : (ones l).data.toList.contains 49 = l.contains true := by
  rw [ones_data]
  induction l with
  | nil => rfl
  | cons b l ih =>
    rw [List.map_cons, List.contains_cons, List.contains_cons, ih]
    congr 1
    cases b <;> rfl
theorem contains0 (l : List Bool) : (ones l).data.toList.contains 48 = l.contains false := by
  rw [ones_data]
  induction l with
  | nil => rfl
  | cons b l ih =>
    rw [List.map_cons, List.contains_cons, List.contains_cons, ih]
    congr 1
    cases b <;> rfl
def knownT (N : Int) (s : ByteArray) : Int := if tok N s then (if (flags s).contains true then (if (flags s).contains false then -1 else 1) else 0) else -1
theorem all_cont (t : List Bool) (b : Bool) : (t.all fun x => x == b) = !t.contains (!b) := by
  induction t with
  | nil => rfl
  | cons x t ih =>
    rw [List.all_cons, ih, List.contains_cons]
    cases x <;> cases b <;> simp
theorem range_all_getD (t : List Bool) (b : Bool) : ((List.range t.length).all fun i => t.getD i false == b) = t.all fun x => x == b := by
  have h := congrArg (fun m : List Bool => m.all id) (range_getD t (fun x => x == b))
  simpa [List.all_map, Function.comp_def] using h
theorem impl_Table_known_eq (N : Int) (l : List Bool) : impl_Table_known.f N (ones l) = some (if l.contains true then (if l.contains false then -1 else 1) else 0) := by
  unfold impl_Table_known.f
  rw [show strings_Contains.f (ones l) ⟨#[49]⟩ = some ((ones l).data.toList.contains 49) from rfl, show strings_Contains.f (ones l) ⟨#[48]⟩ = some ((ones l).data.toList.contains 48) from rfl, contains1, contains0]
  have hb : ∀ b, impl_bit.f b = some (if b then 1 else 0) := fun b => by cases b <;> rfl
  simp only [Option.bind_some, hb]
  cases l.contains true <;> cases l.contains false <;> rfl
theorem spec_Known_eq (N : Int) (s : ByteArray) (hs : s.size ≤ 1099511627776) : ∀ k, s.size + 20 < k → spec_Known.f k N s = some (knownT N s) := by
  intro k hk
  unfold spec_Known.f knownT
  rw [spec_TableOk_eq N s hs k hk, Option.bind_some]
  cases ht : tok N s with
  | false => rfl
  | true =>
    obtain ⟨n, l, rfl, hn, hl, rfl⟩ := tok_form ht
    have hp := pow12 hn
    have hpos : 0 < 2 ^ n := Nat.two_pow_pos n
    rw [if_pos rfl, if_pos rfl, flags_ones]
    cases l with
    | nil => simp at hl; omega
    | cons b t =>
      simp only [List.length_cons] at hl
      have h := rounds_all (fun k i => spec_Known.l0 k ((i + 1 : Nat) : Int) (n : Int) (ones (b :: t))) t.length (fun i => t.getD i false == b) (if b then 1 else 0) (-1) ?_ ?_ ?_ k (by rw [ones_size] at hk; simp at hk; omega)
      · refine h.trans ?_
        rw [range_all_getD, all_cont]
        cases b <;> cases h1 : t.contains true <;> cases h2 : t.contains false <;> simp_all
      all_goals simp only [spec_Known.l0]
      · intro k i hi hpi
        rw [if_pos (by rw [ones_size, List.length_cons]; omega), if_pos (by omega), if_pos (by rw [ones_size, List.length_cons]; omega), bt_ones _ (i + 1) (by simp; omega), show (0 : Int) = ((0 : Nat) : Int) from rfl, bt_ones _ 0 (by simp), if_pos (by simpa using congrArg sgn (beq_iff_eq.1 hpi)), w64s (i + 1) (by omega)]
      · intro k i hi hpi
        rw [if_pos (by rw [ones_size, List.length_cons]; omega), if_pos (by omega), if_pos (by rw [ones_size, List.length_cons]; omega), bt_ones _ (i + 1) (by simp; omega), show (0 : Int) = ((0 : Nat) : Int) from rfl, bt_ones _ 0 (by simp), if_neg ?_]
        simp only [List.getD_cons_succ, List.getD_cons_zero]
        intro e
        have hx : ∀ x y : Bool, sgn x = sgn y → x = y := by decide
        rw [hx _ _ e] at hpi
        simp at hpi
      · intro k
        rw [if_neg (by rw [ones_size, List.length_cons]; omega), if_pos (by rw [ones_size, List.length_cons]; omega), show (0 : Int) = ((0 : Nat) : Int) from rfl, bt_ones _ 0 (by simp), List.getD_cons_zero]
        cases b <;> decide +kernel
end Go.Proofs.Yteagogcpbcickaa.Pure
set_option linter.unusedSimpArgs false
set_option linter.unusedVariables false
namespace Go.Proofs.Yteagogcpbcickaa.Pure
open Go.RowKit Go.Proofs.Yteagogcpbcickaa.G Go.Proofs.YteagogcpbcickaaW.PrintWords Go.Proofs.YteagogcpbcickaaW.PrintLast Go.Proofs.YteagogcpbcickaaW.PrintMore
theorem ones_extract (l : List Bool) (a b : Nat) : (ones l).extract a b = ones ((l.take b).drop a) := by
  apply data_inj
  rw [ByteArray.data_extract]
  simp only [ones, Array.toList_extract, List.extract_eq_take_drop, List.map_drop, List.map_take]
  rw [List.drop_take]
def halfL (l : List Bool) (h : Bool) : List Bool := if h then l.drop (l.length / 2) else l.take (l.length / 2)
theorem halfL_len {n : Nat} {l : List Bool} (hl : l.length = 2 ^ (n + 1)) (h : Bool) : (halfL l h).length = 2 ^ n := by
  rw [Nat.pow_succ] at hl
  cases h <;> simp [halfL] <;> omega
def halfT (N : Int) (s : ByteArray) (h : Int) : Int × ByteArray × Bool := if tok N s && (N != 0) && (h == 0 || h == 1) then (N - 1, ones (halfL (flags s) (h == 1)), true) else (0, ⟨#[]⟩, false)
theorem impl_half_eq (n : Nat) (l : List Bool) (hn : n ≤ 11) (hl : l.length = 2 ^ (n + 1)) (h : Int) : impl_Table_half.f ((n + 1 : Nat) : Int) (ones l) h = some ((n : Int), ones (halfL l (h != 0))) := by
  have hp := pow12 (n := n + 1) (by omega)
  unfold impl_Table_half.f
  rw [ones_size, show ((l.length : Nat) : Int) / 2 = ((l.length / 2 : Nat) : Int) by omega, w64 (n := ((l.length / 2 : Nat) : Int)) (by omega) (by omega), w64 (n := ((n + 1 : Nat) : Int) - 1) (by omega) (by omega), show ((n + 1 : Nat) : Int) - 1 = (n : Int) by omega, Int.toNat_natCast]
  by_cases h0 : h = 0
  · rw [if_pos h0, if_pos (by omega), if_pos (by omega), ones_extract, h0]
    rfl
  · have e : (h != 0) = true := bne_iff_ne.2 h0
    rw [if_neg h0, if_pos (by omega), if_pos (by omega), ones_extract, List.take_of_length_le (by omega), e]
    rfl
theorem spec_Half_eq (N : Int) (s : ByteArray) (h : Int) (hs : s.size ≤ 1099511627776) : ∀ k, s.size + 20 < k → spec_Half.f k N s h = some (halfT N s h) := by
  intro k hk
  unfold spec_Half.f halfT
  rw [spec_TableOk_eq N s hs k hk, Option.bind_some]
  cases ht : tok N s with
  | false => rfl
  | true =>
    obtain ⟨n, l, rfl, hn, hl, rfl⟩ := tok_form ht
    have hp := pow12 hn
    rw [if_pos rfl]
    by_cases h0 : (n : Int) = 0
    · rw [if_pos h0, h0]
      rfl
    · have e0 : ((n : Int) != 0) = true := bne_iff_ne.2 h0
      rw [if_neg h0, e0]
      unfold spec_l01In.f
      by_cases h1 : h = 0 ∨ h = 1
      · obtain ⟨m, rfl⟩ : ∃ m, n = m + 1 := ⟨n - 1, by omega⟩
        have hl2 : l.length = 2 * 2 ^ m := by rw [hl, Nat.pow_succ, Nat.mul_comm]
        have hhalf : l.length / 2 = 2 ^ m := by omega
        rw [if_pos (by omega), Option.bind_some, if_pos (by simp; omega), ones_size, show ((l.length : Nat) : Int) / 2 = ((l.length / 2 : Nat) : Int) by omega, w64 (n := ((l.length / 2 : Nat) : Int)) (by omega) (by omega), w64 (n := ((m + 1 : Nat) : Int) - 1) (by omega) (by omega)]
        rcases h1 with h1 | h1
        · subst h1
          rw [Int.zero_mul, w64 (n := 0) (by omega) (by omega), Int.zero_add, w64 (n := ((l.length / 2 : Nat) : Int)) (by omega) (by omega), if_pos (by omega), if_pos (by omega), if_pos (by omega), Int.toNat_natCast, show (0 : Int).toNat = 0 from rfl, ones_extract, flags_ones]
          rfl
        · subst h1
          rw [Int.one_mul, w64 (n := ((l.length / 2 : Nat) : Int)) (by omega) (by omega), w64 (n := ((l.length / 2 : Nat) : Int) + ((l.length / 2 : Nat) : Int)) (by omega) (by omega), if_pos (by omega), if_pos (by omega), if_pos (by omega), Int.toNat_natCast, show (((l.length / 2 : Nat) : Int) + ((l.length / 2 : Nat) : Int)).toNat = l.length by omega, ones_extract, flags_ones, List.take_length]
          rfl
      · have e : (h == 0 || h == 1) = false := by simp; omega
        rw [e]
        by_cases h2 : h ≥ 0
        · rw [if_pos h2, Option.bind_some, if_neg (by simp; omega)]
          rfl
        · rw [if_neg h2, Option.bind_some, if_neg (by decide)]
          rfl
end Go.Proofs.Yteagogcpbcickaa.Pure
