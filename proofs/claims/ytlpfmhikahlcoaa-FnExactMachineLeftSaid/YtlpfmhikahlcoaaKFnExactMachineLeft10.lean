-- texts of this session, merged by a program of it (wip/gen/pack.py)
import Derived.Test.YtlpfmhikahlcoaaKFnExactMachineLeft1
import Derived.Test.YtlpfmhikahlcoaaKFnExactMachineLeft2
import Derived.Test.YtlpfmhikahlcoaaKFnExactMachineLeft3
import Derived.Test.YtlpfmhikahlcoaaKFnExactMachineLeft5
import Derived.Test.YtlpfmhikahlcoaaKFnExactMachineLeft4
import Derived.Test.YtlpfmhikahlcoaaKFnExactMachineLeft6
import Derived.Test.YtlpfmhikahlcoaaKFnExactMachineLeft7
import Derived.Test.YtlpfmhikahlcoaaKFnExactMachineLeft9
import Derived.Laws.BitsLemmas
import Derived.Test.YtlpfmhikahlcoaaKFnExactMachineLeft8
-- written by a program of this session (wip/gen/gen.py); Lean checks it
namespace Go.Proofs.Ytlpfmhikahlcoaa.G
open Go.Proofs.Ytlpfmhikahlcoaa.Sh Go.RowKit Go.Proofs.YtlpfmhikahlcoaaW.PrintWords Go.Proofs.YtlpfmhikahlcoaaW.PrintLast Go.Proofs.YtlpfmhikahlcoaaW.PrintMore
attribute [local go_sem] max2_int min2_int max_two min_two max_three min_three max_four min_four   -- for this text's walks alone
set_option linter.unusedVariables false
set_option linter.unusedSimpArgs false

/-! ### laws_FnExactMachineLeft: function 8 -/
def laws_FnExactMachineLeft.j0 : Nat → Bool → List Bool → Int → ByteArray → Int → List Int → Int → Bool → Int → Int → Int → List (S130) → List Bool → Int → ByteArray → Int → List Int → Int → Bool → Int → Int → Int → List (S86) → Option (Bool)
  | 0, _, _, _, _, _, _, _, _, _, _, _, _, _, _, _, _, _, _, _, _, _, _, _ => none
  | k + 1, x35, x102000, x102001, x102002, x102003, x102004, x102005, x102006, x102007, x102008, x102009, x102010, x142000, x142001, x142002, x142003, x142004, x142005, x142006, x142007, x142008, x142009, x142010 => if x35 = true then (some false) else ((laws_toMachine.f k x102000 x102001 x102002 x102003 x102004 x102005 x102006 x102007 x102008 x102009 x102010).bind fun bt147 => ((laws_eqMachine.f k x142000 x142001 x142002 x142003 x142004 x142005 x142006 x142007 x142008 x142009 x142010 bt147.1 bt147.2.1 bt147.2.2.1 bt147.2.2.2.1 bt147.2.2.2.2.1 bt147.2.2.2.2.2.1 bt147.2.2.2.2.2.2.1 bt147.2.2.2.2.2.2.2.1 bt147.2.2.2.2.2.2.2.2.1 bt147.2.2.2.2.2.2.2.2.2.1 bt147.2.2.2.2.2.2.2.2.2.2).bind fun t164 => (if t164 = true then (some true) else (some false))))
def laws_FnExactMachineLeft.f (k : Nat) (l0_0 : List Bool) (a0_1 : Int) (a0_2 : ByteArray) (a0_3 : Int) (l0_4 : List Int) (a0_5 : Int) (a0_6 : Bool) (a0_7 : Int) (a0_8 : Int) (a0_9 : Int) (l0_10 : List (S130)) : Option (Bool) := (laws_szMachine.f k l0_0 a0_1 a0_2 a0_3 l0_4 a0_5 a0_6 a0_7 a0_8 a0_9 l0_10 1048576).bind fun t102 => (if t102 < 0 then (some true) else ((laws_toMachine.f k l0_0 a0_1 a0_2 a0_3 l0_4 a0_5 a0_6 a0_7 a0_8 a0_9 l0_10).bind fun bt103 => ((spec_MachineLeft.f k bt103.1 bt103.2.1 bt103.2.2.1 bt103.2.2.2.1 bt103.2.2.2.2.1 bt103.2.2.2.2.2.1 bt103.2.2.2.2.2.2.1 bt103.2.2.2.2.2.2.2.1 bt103.2.2.2.2.2.2.2.2.1 bt103.2.2.2.2.2.2.2.2.2.1 bt103.2.2.2.2.2.2.2.2.2.2).bind fun bt120 => ((laws_toMachine.f k l0_0 a0_1 a0_2 a0_3 l0_4 a0_5 a0_6 a0_7 a0_8 a0_9 l0_10).bind fun bt124 => ((impl_MachineLeft.f k bt124.1 bt124.2.1 bt124.2.2.1 bt124.2.2.2.1 bt124.2.2.2.2.1 bt124.2.2.2.2.2.1 bt124.2.2.2.2.2.2.1 bt124.2.2.2.2.2.2.2.1 bt124.2.2.2.2.2.2.2.2.1 bt124.2.2.2.2.2.2.2.2.2.1 bt124.2.2.2.2.2.2.2.2.2.2).bind fun bt142 => ((laws_eqTable.f bt142.1 bt142.2.1 bt120.1 bt120.2.1).bind fun t146 => (if t146 = true then (laws_FnExactMachineLeft.j0 k (bt142.2.2 != bt120.2.2) l0_0 a0_1 a0_2 a0_3 l0_4 a0_5 a0_6 a0_7 a0_8 a0_9 l0_10 bt124.1 bt124.2.1 bt124.2.2.1 bt124.2.2.2.1 bt124.2.2.2.2.1 bt124.2.2.2.2.2.1 bt124.2.2.2.2.2.2.1 bt124.2.2.2.2.2.2.2.1 bt124.2.2.2.2.2.2.2.2.1 bt124.2.2.2.2.2.2.2.2.2.1 bt124.2.2.2.2.2.2.2.2.2.2) else (laws_FnExactMachineLeft.j0 k true l0_0 a0_1 a0_2 a0_3 l0_4 a0_5 a0_6 a0_7 a0_8 a0_9 l0_10 bt124.1 bt124.2.1 bt124.2.2.1 bt124.2.2.2.1 bt124.2.2.2.2.1 bt124.2.2.2.2.2.1 bt124.2.2.2.2.2.2.1 bt124.2.2.2.2.2.2.2.1 bt124.2.2.2.2.2.2.2.2.1 bt124.2.2.2.2.2.2.2.2.2.1 bt124.2.2.2.2.2.2.2.2.2.2))))))))
set_option maxHeartbeats 80000000 in
set_option maxRecDepth 100000 in
theorem laws_FnExactMachineLeft.calls (k : Nat) (A0_0 : Option Addr) (c0_0 : Nat) (l0_0 : List Bool) (a0_1 : Int) (a0_2 : ByteArray) (a0_3 : Int) (A0_4 : Option Addr) (c0_4 : Nat) (l0_4 : List Int) (a0_5 : Int) (a0_6 : Bool) (a0_7 : Int) (a0_8 : Int) (a0_9 : Int) (A0_10 : Option Addr) (c0_10 : Nat) (l0_10 : List (S130)) (r : Bool) (w : World) (hr0_0 : Kd.C Kd.bool w A0_0 l0_0.length l0_0) (hc0_0 : l0_0.length ≤ c0_0) (hr0_4 : Kd.C (Kd.int .i64) w A0_4 l0_4.length l0_4) (hc0_4 : l0_4.length ≤ c0_4) (hr0_10 : Kd.C k130 w A0_10 l0_10.length l0_10) (hc0_10 : l0_10.length ≤ c0_10) (ht_ : r = true) (h : laws_FnExactMachineLeft.f k l0_0 a0_1 a0_2 a0_3 l0_4 a0_5 a0_6 a0_7 a0_8 a0_9 l0_10 = some r) :
  Calls Try.prog 8 #[.agg #[.slice A0_0 l0_0.length c0_0, .int .i64 a0_1, .string a0_2, .int .i64 a0_3, .slice A0_4 l0_4.length c0_4, .int .i64 a0_5, .bool a0_6, .int .i64 a0_7, .int .i64 a0_8, .int .i64 a0_9, .slice A0_10 l0_10.length c0_10]] w fun e w' => e = .returned (.bool r) ∧ Below w.heap.size w w' := by
 have hu45 := Try.underlying45; have hu29 := Try.underlying29; have hu36 := Try.underlying36; have HT := Aside0.mk ht_; clear ht_; have HR0_0 := Aside0.mk hr0_0; have HC0_0 := Aside0.mk hc0_0; clear hr0_0 hc0_0; have HR0_4 := Aside0.mk hr0_4; have HC0_4 := Aside0.mk hc0_4; clear hr0_4 hc0_4; have HR0_10 := Aside0.mk hr0_10; have HC0_10 := Aside0.mk hc0_10; clear hr0_10 hc0_10; have HB := Aside0.mk (Below.refl w.heap.size w)
 have H : ((laws_szMachine.f k l0_0 a0_1 a0_2 a0_3 l0_4 a0_5 a0_6 a0_7 a0_8 a0_9 l0_10 1048576).bind fun t102 => (if t102 < 0 then (some true) else ((laws_toMachine.f k l0_0 a0_1 a0_2 a0_3 l0_4 a0_5 a0_6 a0_7 a0_8 a0_9 l0_10).bind fun bt103 => ((spec_MachineLeft.f k bt103.1 bt103.2.1 bt103.2.2.1 bt103.2.2.2.1 bt103.2.2.2.2.1 bt103.2.2.2.2.2.1 bt103.2.2.2.2.2.2.1 bt103.2.2.2.2.2.2.2.1 bt103.2.2.2.2.2.2.2.2.1 bt103.2.2.2.2.2.2.2.2.2.1 bt103.2.2.2.2.2.2.2.2.2.2).bind fun bt120 => ((laws_toMachine.f k l0_0 a0_1 a0_2 a0_3 l0_4 a0_5 a0_6 a0_7 a0_8 a0_9 l0_10).bind fun bt124 => ((impl_MachineLeft.f k bt124.1 bt124.2.1 bt124.2.2.1 bt124.2.2.2.1 bt124.2.2.2.2.1 bt124.2.2.2.2.2.1 bt124.2.2.2.2.2.2.1 bt124.2.2.2.2.2.2.2.1 bt124.2.2.2.2.2.2.2.2.1 bt124.2.2.2.2.2.2.2.2.2.1 bt124.2.2.2.2.2.2.2.2.2.2).bind fun bt142 => ((laws_eqTable.f bt142.1 bt142.2.1 bt120.1 bt120.2.1).bind fun t146 => (if t146 = true then (laws_FnExactMachineLeft.j0 k (bt142.2.2 != bt120.2.2) l0_0 a0_1 a0_2 a0_3 l0_4 a0_5 a0_6 a0_7 a0_8 a0_9 l0_10 bt124.1 bt124.2.1 bt124.2.2.1 bt124.2.2.2.1 bt124.2.2.2.2.1 bt124.2.2.2.2.2.1 bt124.2.2.2.2.2.2.1 bt124.2.2.2.2.2.2.2.1 bt124.2.2.2.2.2.2.2.2.1 bt124.2.2.2.2.2.2.2.2.2.1 bt124.2.2.2.2.2.2.2.2.2.2) else (laws_FnExactMachineLeft.j0 k true l0_0 a0_1 a0_2 a0_3 l0_4 a0_5 a0_6 a0_7 a0_8 a0_9 l0_10 bt124.1 bt124.2.1 bt124.2.2.1 bt124.2.2.2.1 bt124.2.2.2.2.1 bt124.2.2.2.2.2.1 bt124.2.2.2.2.2.2.1 bt124.2.2.2.2.2.2.2.1 bt124.2.2.2.2.2.2.2.2.1 bt124.2.2.2.2.2.2.2.2.2.1 bt124.2.2.2.2.2.2.2.2.2.2))))))))) = some r := h
 clear h
 replace H := Option.bind_eq_some_iff.mp H
 obtain ⟨t102, A20, H⟩ := H
 replace H : (if t102 < 0 then (some true) else ((laws_toMachine.f k l0_0 a0_1 a0_2 a0_3 l0_4 a0_5 a0_6 a0_7 a0_8 a0_9 l0_10).bind fun bt103 => ((spec_MachineLeft.f k bt103.1 bt103.2.1 bt103.2.2.1 bt103.2.2.2.1 bt103.2.2.2.2.1 bt103.2.2.2.2.2.1 bt103.2.2.2.2.2.2.1 bt103.2.2.2.2.2.2.2.1 bt103.2.2.2.2.2.2.2.2.1 bt103.2.2.2.2.2.2.2.2.2.1 bt103.2.2.2.2.2.2.2.2.2.2).bind fun bt120 => ((laws_toMachine.f k l0_0 a0_1 a0_2 a0_3 l0_4 a0_5 a0_6 a0_7 a0_8 a0_9 l0_10).bind fun bt124 => ((impl_MachineLeft.f k bt124.1 bt124.2.1 bt124.2.2.1 bt124.2.2.2.1 bt124.2.2.2.2.1 bt124.2.2.2.2.2.1 bt124.2.2.2.2.2.2.1 bt124.2.2.2.2.2.2.2.1 bt124.2.2.2.2.2.2.2.2.1 bt124.2.2.2.2.2.2.2.2.2.1 bt124.2.2.2.2.2.2.2.2.2.2).bind fun bt142 => ((laws_eqTable.f bt142.1 bt142.2.1 bt120.1 bt120.2.1).bind fun t146 => (if t146 = true then (laws_FnExactMachineLeft.j0 k (bt142.2.2 != bt120.2.2) l0_0 a0_1 a0_2 a0_3 l0_4 a0_5 a0_6 a0_7 a0_8 a0_9 l0_10 bt124.1 bt124.2.1 bt124.2.2.1 bt124.2.2.2.1 bt124.2.2.2.2.1 bt124.2.2.2.2.2.1 bt124.2.2.2.2.2.2.1 bt124.2.2.2.2.2.2.2.1 bt124.2.2.2.2.2.2.2.2.1 bt124.2.2.2.2.2.2.2.2.2.1 bt124.2.2.2.2.2.2.2.2.2.2) else (laws_FnExactMachineLeft.j0 k true l0_0 a0_1 a0_2 a0_3 l0_4 a0_5 a0_6 a0_7 a0_8 a0_9 l0_10 bt124.1 bt124.2.1 bt124.2.2.1 bt124.2.2.2.1 bt124.2.2.2.2.1 bt124.2.2.2.2.2.1 bt124.2.2.2.2.2.2.1 bt124.2.2.2.2.2.2.2.1 bt124.2.2.2.2.2.2.2.2.1 bt124.2.2.2.2.2.2.2.2.2.1 bt124.2.2.2.2.2.2.2.2.2.2)))))))) = some r := H
 have A2 := Aside0.mk A20; clear A20
 by_cases c3 : t102 < 0
 ·rw [if_pos c3] at H
  have c3b0 : decide (t102 < 0) = true := decide_eq_true c3; clear c3
  obtain rfl := Option.some.inj H
  go_enter Try.func8, Try.ntmps8
  go_wp2_with (first | ((with_reducible refine gate_dst (N := 1) rfl ?_); refine box_event ?hg (N := 1) ?hd (cs := #[.slice A0_0 l0_0.length c0_0, .int .i64 a0_1, .string a0_2, .int .i64 a0_3, .slice A0_4 l0_4.length c0_4, .int .i64 a0_5, .bool a0_6, .int .i64 a0_7, .int .i64 a0_8, .int .i64 a0_9, .slice A0_10 l0_10.length c0_10]) (t := 45) ?hr ?_; (case hd => rfl); (case hg => rfl); (case hr => first | (go_simp; done) | (go_simp; rfl)); intro gb101 hg w4 hbox hb; have n0_ := bs0 HB hb; have n1_ := Aside0.mk (hbox); have n2_ := bz0 hg HB; have n3_ := bz0 hg HB; clear HB; have HB := n0_; have BK101 := n1_; have GW101 := n2_; have GE101 := n3_; clear n0_ n1_ n2_ n3_; clear hb hbox hg; have hcz5_0 : w4.cell? ⟨gb101, 0, none⟩ = some (.slice A0_0 l0_0.length c0_0) := (blk_cell BK101.out 0).trans rfl; have hcz5_1 : w4.cell? ⟨gb101, 1, none⟩ = some (.int .i64 a0_1) := (blk_cell BK101.out 1).trans rfl; have hcz5_2 : w4.cell? ⟨gb101, 2, none⟩ = some (.string a0_2) := (blk_cell BK101.out 2).trans rfl; have hcz5_3 : w4.cell? ⟨gb101, 3, none⟩ = some (.int .i64 a0_3) := (blk_cell BK101.out 3).trans rfl; have hcz5_4 : w4.cell? ⟨gb101, 4, none⟩ = some (.slice A0_4 l0_4.length c0_4) := (blk_cell BK101.out 4).trans rfl; have hcz5_5 : w4.cell? ⟨gb101, 5, none⟩ = some (.int .i64 a0_5) := (blk_cell BK101.out 5).trans rfl; have hcz5_6 : w4.cell? ⟨gb101, 6, none⟩ = some (.bool a0_6) := (blk_cell BK101.out 6).trans rfl; have hcz5_7 : w4.cell? ⟨gb101, 7, none⟩ = some (.int .i64 a0_7) := (blk_cell BK101.out 7).trans rfl; have hcz5_8 : w4.cell? ⟨gb101, 8, none⟩ = some (.int .i64 a0_8) := (blk_cell BK101.out 8).trans rfl; have hcz5_9 : w4.cell? ⟨gb101, 9, none⟩ = some (.int .i64 a0_9) := (blk_cell BK101.out 9).trans rfl; have hcz5_10 : w4.cell? ⟨gb101, 10, none⟩ = some (.slice A0_10 l0_10.length c0_10) := (blk_cell BK101.out 10).trans rfl; have hfz5_0 := blk_frozen BK101.out 0; have hfz5_1 := blk_frozen BK101.out 1; have hfz5_2 := blk_frozen BK101.out 2; have hfz5_3 := blk_frozen BK101.out 3; have hfz5_4 := blk_frozen BK101.out 4; have hfz5_5 := blk_frozen BK101.out 5; have hfz5_6 := blk_frozen BK101.out 6; have hfz5_7 := blk_frozen BK101.out 7; have hfz5_8 := blk_frozen BK101.out 8; have hfz5_9 := blk_frozen BK101.out 9; have hfz5_10 := blk_frozen BK101.out 10) | ((with_reducible refine gate_callee (f := 29) rfl ?_); refine goesL_ (some 11) rfl rfl Try.func29 (by kernel_rfl) rfl #[.agg #[.slice A0_0 l0_0.length c0_0, .int .i64 a0_1, .string a0_2, .int .i64 a0_3, .slice A0_4 l0_4.length c0_4, .int .i64 a0_5, .bool a0_6, .int .i64 a0_7, .int .i64 a0_8, .int .i64 a0_9, .slice A0_10 l0_10.length c0_10], .int .i64 1048576] rfl (by (try simp only [List.map_toArray, List.map_cons, List.map_nil]); first | done | rfl | (simp only [List.length_drop, List.length_take]; rfl)) ?_; (with_reducible refine (laws_szMachine.calls k _ _ l0_0 a0_1 a0_2 a0_3 _ _ l0_4 a0_5 a0_6 a0_7 a0_8 a0_9 _ _ l0_10 1048576 t102 _ ?side1 ?side2 ?side3 ?side4 ?side5 ?side6 A2.out).mono ?_); (case side1 => repeat (first | exact (Kd.C_below HR0_0.out HB.out) | (with_reducible refine Kd.C_alloc ?_ _) | (with_reducible refine Kd.C_drewN ?_ _) | (with_reducible refine Kd.C_drew ?_))); (case side2 => exact HC0_0.out); (case side3 => repeat (first | exact (Kd.C_below HR0_4.out HB.out) | (with_reducible refine Kd.C_alloc ?_ _) | (with_reducible refine Kd.C_drewN ?_ _) | (with_reducible refine Kd.C_drew ?_))); (case side4 => exact HC0_4.out); (case side5 => repeat (first | exact (Kd.C_below HR0_10.out HB.out) | (with_reducible refine Kd.C_alloc ?_ _) | (with_reducible refine Kd.C_drewN ?_ _) | (with_reducible refine Kd.C_drew ?_))); (case side6 => exact HC0_10.out); rintro e w6 ⟨rfl, hb⟩; refine ⟨_, rfl, ?_⟩; have n0_ := bb BK101 hb; have n1_ := bs1 HB hb GE101; clear BK101; clear HB; have BK101 := n0_; have HB := n1_; clear n0_ n1_; (try clear hb); (try clear hb2); (try clear hk); (try clear hi)))
  go_ret
  exact ⟨by first | rfl | (simp [errW_none, errW_some] <;> rfl) | (simp [*, errW_none, errW_some] <;> rfl), by repeat (first | (with_reducible first | exact HB.out | apply below_alloc | apply pw_below_drewN | apply below_drew1 | refine below_set ?_ GE101.out) | exact HB.out)⟩
 ·rw [if_neg c3] at H
  have c3b0 : decide (t102 < 0) = false := decide_eq_false c3; clear c3
  replace H := Option.bind_eq_some_iff.mp H
  obtain ⟨⟨t103, t106, t107, t108, t109, t112, t113, t114, t115, t116, t117⟩, A70, H⟩ := H
  replace H : ((spec_MachineLeft.f k t103 t106 t107 t108 t109 t112 t113 t114 t115 t116 t117).bind fun bt120 => ((laws_toMachine.f k l0_0 a0_1 a0_2 a0_3 l0_4 a0_5 a0_6 a0_7 a0_8 a0_9 l0_10).bind fun bt124 => ((impl_MachineLeft.f k bt124.1 bt124.2.1 bt124.2.2.1 bt124.2.2.2.1 bt124.2.2.2.2.1 bt124.2.2.2.2.2.1 bt124.2.2.2.2.2.2.1 bt124.2.2.2.2.2.2.2.1 bt124.2.2.2.2.2.2.2.2.1 bt124.2.2.2.2.2.2.2.2.2.1 bt124.2.2.2.2.2.2.2.2.2.2).bind fun bt142 => ((laws_eqTable.f bt142.1 bt142.2.1 bt120.1 bt120.2.1).bind fun t146 => (if t146 = true then (laws_FnExactMachineLeft.j0 k (bt142.2.2 != bt120.2.2) l0_0 a0_1 a0_2 a0_3 l0_4 a0_5 a0_6 a0_7 a0_8 a0_9 l0_10 bt124.1 bt124.2.1 bt124.2.2.1 bt124.2.2.2.1 bt124.2.2.2.2.1 bt124.2.2.2.2.2.1 bt124.2.2.2.2.2.2.1 bt124.2.2.2.2.2.2.2.1 bt124.2.2.2.2.2.2.2.2.1 bt124.2.2.2.2.2.2.2.2.2.1 bt124.2.2.2.2.2.2.2.2.2.2) else (laws_FnExactMachineLeft.j0 k true l0_0 a0_1 a0_2 a0_3 l0_4 a0_5 a0_6 a0_7 a0_8 a0_9 l0_10 bt124.1 bt124.2.1 bt124.2.2.1 bt124.2.2.2.1 bt124.2.2.2.2.1 bt124.2.2.2.2.2.1 bt124.2.2.2.2.2.2.1 bt124.2.2.2.2.2.2.2.1 bt124.2.2.2.2.2.2.2.2.1 bt124.2.2.2.2.2.2.2.2.2.1 bt124.2.2.2.2.2.2.2.2.2.2)))))) = some r := H
  have A7 := Aside0.mk A70; clear A70
  replace H := Option.bind_eq_some_iff.mp H
  obtain ⟨⟨t120, t121, t122⟩, A80, H⟩ := H
  replace H : ((laws_toMachine.f k l0_0 a0_1 a0_2 a0_3 l0_4 a0_5 a0_6 a0_7 a0_8 a0_9 l0_10).bind fun bt124 => ((impl_MachineLeft.f k bt124.1 bt124.2.1 bt124.2.2.1 bt124.2.2.2.1 bt124.2.2.2.2.1 bt124.2.2.2.2.2.1 bt124.2.2.2.2.2.2.1 bt124.2.2.2.2.2.2.2.1 bt124.2.2.2.2.2.2.2.2.1 bt124.2.2.2.2.2.2.2.2.2.1 bt124.2.2.2.2.2.2.2.2.2.2).bind fun bt142 => ((laws_eqTable.f bt142.1 bt142.2.1 t120 t121).bind fun t146 => (if t146 = true then (laws_FnExactMachineLeft.j0 k (bt142.2.2 != t122) l0_0 a0_1 a0_2 a0_3 l0_4 a0_5 a0_6 a0_7 a0_8 a0_9 l0_10 bt124.1 bt124.2.1 bt124.2.2.1 bt124.2.2.2.1 bt124.2.2.2.2.1 bt124.2.2.2.2.2.1 bt124.2.2.2.2.2.2.1 bt124.2.2.2.2.2.2.2.1 bt124.2.2.2.2.2.2.2.2.1 bt124.2.2.2.2.2.2.2.2.2.1 bt124.2.2.2.2.2.2.2.2.2.2) else (laws_FnExactMachineLeft.j0 k true l0_0 a0_1 a0_2 a0_3 l0_4 a0_5 a0_6 a0_7 a0_8 a0_9 l0_10 bt124.1 bt124.2.1 bt124.2.2.1 bt124.2.2.2.1 bt124.2.2.2.2.1 bt124.2.2.2.2.2.1 bt124.2.2.2.2.2.2.1 bt124.2.2.2.2.2.2.2.1 bt124.2.2.2.2.2.2.2.2.1 bt124.2.2.2.2.2.2.2.2.2.1 bt124.2.2.2.2.2.2.2.2.2.2))))) = some r := H
  have A8 := Aside0.mk A80; clear A80
  replace H := Option.bind_eq_some_iff.mp H
  obtain ⟨⟨t124, t127, t128, t129, t130, t133, t134, t135, t136, t137, t138⟩, A90, H⟩ := H
  replace H : ((impl_MachineLeft.f k t124 t127 t128 t129 t130 t133 t134 t135 t136 t137 t138).bind fun bt142 => ((laws_eqTable.f bt142.1 bt142.2.1 t120 t121).bind fun t146 => (if t146 = true then (laws_FnExactMachineLeft.j0 k (bt142.2.2 != t122) l0_0 a0_1 a0_2 a0_3 l0_4 a0_5 a0_6 a0_7 a0_8 a0_9 l0_10 t124 t127 t128 t129 t130 t133 t134 t135 t136 t137 t138) else (laws_FnExactMachineLeft.j0 k true l0_0 a0_1 a0_2 a0_3 l0_4 a0_5 a0_6 a0_7 a0_8 a0_9 l0_10 t124 t127 t128 t129 t130 t133 t134 t135 t136 t137 t138)))) = some r := H
  have A9 := Aside0.mk A90; clear A90
  replace H := Option.bind_eq_some_iff.mp H
  obtain ⟨⟨t142, t143, t144⟩, A100, H⟩ := H
  replace H : ((laws_eqTable.f t142 t143 t120 t121).bind fun t146 => (if t146 = true then (laws_FnExactMachineLeft.j0 k (t144 != t122) l0_0 a0_1 a0_2 a0_3 l0_4 a0_5 a0_6 a0_7 a0_8 a0_9 l0_10 t124 t127 t128 t129 t130 t133 t134 t135 t136 t137 t138) else (laws_FnExactMachineLeft.j0 k true l0_0 a0_1 a0_2 a0_3 l0_4 a0_5 a0_6 a0_7 a0_8 a0_9 l0_10 t124 t127 t128 t129 t130 t133 t134 t135 t136 t137 t138))) = some r := H
  have A10 := Aside0.mk A100; clear A100; have HC11 := Aside0.mk H; clear H
  go_enter Try.func8, Try.ntmps8
  go_upto_region 8 with (first | ((with_reducible refine gate_dst (N := 1) rfl ?_); refine box_event ?hg (N := 1) ?hd (cs := #[.slice A0_0 l0_0.length c0_0, .int .i64 a0_1, .string a0_2, .int .i64 a0_3, .slice A0_4 l0_4.length c0_4, .int .i64 a0_5, .bool a0_6, .int .i64 a0_7, .int .i64 a0_8, .int .i64 a0_9, .slice A0_10 l0_10.length c0_10]) (t := 45) ?hr ?_; (case hd => rfl); (case hg => rfl); (case hr => first | (go_simp; done) | (go_simp; rfl)); intro gb101 hg w12 hbox hb; have n0_ := bs0 HB hb; have n1_ := Aside0.mk (hbox); have n2_ := bz0 hg HB; have n3_ := bz0 hg HB; clear HB; have HB := n0_; have BK101 := n1_; have GW101 := n2_; have GE101 := n3_; clear n0_ n1_ n2_ n3_; clear hb hbox hg; have hcz13_0 : w12.cell? ⟨gb101, 0, none⟩ = some (.slice A0_0 l0_0.length c0_0) := (blk_cell BK101.out 0).trans rfl; have hcz13_1 : w12.cell? ⟨gb101, 1, none⟩ = some (.int .i64 a0_1) := (blk_cell BK101.out 1).trans rfl; have hcz13_2 : w12.cell? ⟨gb101, 2, none⟩ = some (.string a0_2) := (blk_cell BK101.out 2).trans rfl; have hcz13_3 : w12.cell? ⟨gb101, 3, none⟩ = some (.int .i64 a0_3) := (blk_cell BK101.out 3).trans rfl; have hcz13_4 : w12.cell? ⟨gb101, 4, none⟩ = some (.slice A0_4 l0_4.length c0_4) := (blk_cell BK101.out 4).trans rfl; have hcz13_5 : w12.cell? ⟨gb101, 5, none⟩ = some (.int .i64 a0_5) := (blk_cell BK101.out 5).trans rfl; have hcz13_6 : w12.cell? ⟨gb101, 6, none⟩ = some (.bool a0_6) := (blk_cell BK101.out 6).trans rfl; have hcz13_7 : w12.cell? ⟨gb101, 7, none⟩ = some (.int .i64 a0_7) := (blk_cell BK101.out 7).trans rfl; have hcz13_8 : w12.cell? ⟨gb101, 8, none⟩ = some (.int .i64 a0_8) := (blk_cell BK101.out 8).trans rfl; have hcz13_9 : w12.cell? ⟨gb101, 9, none⟩ = some (.int .i64 a0_9) := (blk_cell BK101.out 9).trans rfl; have hcz13_10 : w12.cell? ⟨gb101, 10, none⟩ = some (.slice A0_10 l0_10.length c0_10) := (blk_cell BK101.out 10).trans rfl; have hfz13_0 := blk_frozen BK101.out 0; have hfz13_1 := blk_frozen BK101.out 1; have hfz13_2 := blk_frozen BK101.out 2; have hfz13_3 := blk_frozen BK101.out 3; have hfz13_4 := blk_frozen BK101.out 4; have hfz13_5 := blk_frozen BK101.out 5; have hfz13_6 := blk_frozen BK101.out 6; have hfz13_7 := blk_frozen BK101.out 7; have hfz13_8 := blk_frozen BK101.out 8; have hfz13_9 := blk_frozen BK101.out 9; have hfz13_10 := blk_frozen BK101.out 10) | ((with_reducible refine gate_callee (f := 29) rfl ?_); refine goesL_ (some 11) rfl rfl Try.func29 (by kernel_rfl) rfl #[.agg #[.slice A0_0 l0_0.length c0_0, .int .i64 a0_1, .string a0_2, .int .i64 a0_3, .slice A0_4 l0_4.length c0_4, .int .i64 a0_5, .bool a0_6, .int .i64 a0_7, .int .i64 a0_8, .int .i64 a0_9, .slice A0_10 l0_10.length c0_10], .int .i64 1048576] rfl (by (try simp only [List.map_toArray, List.map_cons, List.map_nil]); first | done | rfl | (simp only [List.length_drop, List.length_take]; rfl)) ?_; (with_reducible refine (laws_szMachine.calls k _ _ l0_0 a0_1 a0_2 a0_3 _ _ l0_4 a0_5 a0_6 a0_7 a0_8 a0_9 _ _ l0_10 1048576 t102 _ ?side1 ?side2 ?side3 ?side4 ?side5 ?side6 A2.out).mono ?_); (case side1 => repeat (first | exact (Kd.C_below HR0_0.out HB.out) | (with_reducible refine Kd.C_alloc ?_ _) | (with_reducible refine Kd.C_drewN ?_ _) | (with_reducible refine Kd.C_drew ?_))); (case side2 => exact HC0_0.out); (case side3 => repeat (first | exact (Kd.C_below HR0_4.out HB.out) | (with_reducible refine Kd.C_alloc ?_ _) | (with_reducible refine Kd.C_drewN ?_ _) | (with_reducible refine Kd.C_drew ?_))); (case side4 => exact HC0_4.out); (case side5 => repeat (first | exact (Kd.C_below HR0_10.out HB.out) | (with_reducible refine Kd.C_alloc ?_ _) | (with_reducible refine Kd.C_drewN ?_ _) | (with_reducible refine Kd.C_drew ?_))); (case side6 => exact HC0_10.out); rintro e w14 ⟨rfl, hb⟩; refine ⟨_, rfl, ?_⟩; have n0_ := bb BK101 hb; have n1_ := bs1 HB hb GE101; clear BK101; clear HB; have BK101 := n0_; have HB := n1_; clear n0_ n1_; (try clear hb); (try clear hb2); (try clear hk); (try clear hi); have hcz15_0 : w14.cell? ⟨gb101, 0, none⟩ = some (.slice A0_0 l0_0.length c0_0) := (blk_cell BK101.out 0).trans rfl; have hcz15_1 : w14.cell? ⟨gb101, 1, none⟩ = some (.int .i64 a0_1) := (blk_cell BK101.out 1).trans rfl; have hcz15_2 : w14.cell? ⟨gb101, 2, none⟩ = some (.string a0_2) := (blk_cell BK101.out 2).trans rfl; have hcz15_3 : w14.cell? ⟨gb101, 3, none⟩ = some (.int .i64 a0_3) := (blk_cell BK101.out 3).trans rfl; have hcz15_4 : w14.cell? ⟨gb101, 4, none⟩ = some (.slice A0_4 l0_4.length c0_4) := (blk_cell BK101.out 4).trans rfl; have hcz15_5 : w14.cell? ⟨gb101, 5, none⟩ = some (.int .i64 a0_5) := (blk_cell BK101.out 5).trans rfl; have hcz15_6 : w14.cell? ⟨gb101, 6, none⟩ = some (.bool a0_6) := (blk_cell BK101.out 6).trans rfl; have hcz15_7 : w14.cell? ⟨gb101, 7, none⟩ = some (.int .i64 a0_7) := (blk_cell BK101.out 7).trans rfl; have hcz15_8 : w14.cell? ⟨gb101, 8, none⟩ = some (.int .i64 a0_8) := (blk_cell BK101.out 8).trans rfl; have hcz15_9 : w14.cell? ⟨gb101, 9, none⟩ = some (.int .i64 a0_9) := (blk_cell BK101.out 9).trans rfl; have hcz15_10 : w14.cell? ⟨gb101, 10, none⟩ = some (.slice A0_10 l0_10.length c0_10) := (blk_cell BK101.out 10).trans rfl; have hfz15_0 := blk_frozen BK101.out 0; have hfz15_1 := blk_frozen BK101.out 1; have hfz15_2 := blk_frozen BK101.out 2; have hfz15_3 := blk_frozen BK101.out 3; have hfz15_4 := blk_frozen BK101.out 4; have hfz15_5 := blk_frozen BK101.out 5; have hfz15_6 := blk_frozen BK101.out 6; have hfz15_7 := blk_frozen BK101.out 7; have hfz15_8 := blk_frozen BK101.out 8; have hfz15_9 := blk_frozen BK101.out 9; have hfz15_10 := blk_frozen BK101.out 10) | ((with_reducible refine gate_callee (f := 31) rfl ?_); refine goesL_ (some 16) rfl rfl Try.func31 (by kernel_rfl) rfl #[.agg #[.slice A0_0 l0_0.length c0_0, .int .i64 a0_1, .string a0_2, .int .i64 a0_3, .slice A0_4 l0_4.length c0_4, .int .i64 a0_5, .bool a0_6, .int .i64 a0_7, .int .i64 a0_8, .int .i64 a0_9, .slice A0_10 l0_10.length c0_10]] rfl (by (try simp only [List.map_toArray, List.map_cons, List.map_nil]); first | done | rfl | (simp only [List.length_drop, List.length_take]; rfl)) ?_; (with_reducible refine (laws_toMachine.calls k _ _ l0_0 a0_1 a0_2 a0_3 _ _ l0_4 a0_5 a0_6 a0_7 a0_8 a0_9 _ _ l0_10 t103 t106 t107 t108 t109 t112 t113 t114 t115 t116 t117 _ ?side1 ?side2 ?side3 ?side4 ?side5 ?side6 A7.out).mono ?_); (case side1 => repeat (first | exact (Kd.C_below HR0_0.out HB.out) | (with_reducible refine Kd.C_alloc ?_ _) | (with_reducible refine Kd.C_drewN ?_ _) | (with_reducible refine Kd.C_drew ?_))); (case side2 => exact HC0_0.out); (case side3 => repeat (first | exact (Kd.C_below HR0_4.out HB.out) | (with_reducible refine Kd.C_alloc ?_ _) | (with_reducible refine Kd.C_drewN ?_ _) | (with_reducible refine Kd.C_drew ?_))); (case side4 => exact HC0_4.out); (case side5 => repeat (first | exact (Kd.C_below HR0_10.out HB.out) | (with_reducible refine Kd.C_alloc ?_ _) | (with_reducible refine Kd.C_drewN ?_ _) | (with_reducible refine Kd.C_drew ?_))); (case side6 => exact HC0_10.out); rintro e w16 ⟨v104, v110, v118, rfl, ho0, ho1, ho2, hb⟩; refine ⟨_, rfl, ?_⟩; have n0_ := Aside0.mk (Kd.R_lower ho0 (below_size (by repeat (first | (with_reducible first | exact HB.out | apply below_alloc | apply pw_below_drewN | apply below_drew1 | refine below_set ?_ GE101.out) | exact HB.out)))); have n1_ := Aside0.mk (Kd.R_lower ho1 (below_size (by repeat (first | (with_reducible first | exact HB.out | apply below_alloc | apply pw_below_drewN | apply below_drew1 | refine below_set ?_ GE101.out) | exact HB.out)))); have n2_ := Aside0.mk (Kd.R_lower ho2 (below_size (by repeat (first | (with_reducible first | exact HB.out | apply below_alloc | apply pw_below_drewN | apply below_drew1 | refine below_set ?_ GE101.out) | exact HB.out)))); have n3_ := bb BK101 hb; have n4_ := bs1 HB hb GE101; clear BK101; clear HB; have HO105 := n0_; have HO111 := n1_; have HO119 := n2_; have BK101 := n3_; have HB := n4_; clear n0_ n1_ n2_ n3_ n4_; (try clear hb); (try clear hb2); (try clear hk); (try clear hi); (try clear ho0); (try clear ho1); (try clear ho2); obtain ⟨Ao17, co17, eo17⟩ := Kd.R_slice HO105.out; subst eo17; obtain ⟨Ao18, co18, eo18⟩ := Kd.R_slice HO111.out; subst eo18; obtain ⟨Ao19, co19, eo19⟩ := Kd.R_slice HO119.out; subst eo19) | ((with_reducible refine gate_callee (f := 35) rfl ?_); refine goesL_ (some 17) rfl rfl Try.func35 (by kernel_rfl) rfl #[.agg #[.slice Ao17 t103.length co17, .int .i64 t106, .string t107, .int .i64 t108, .slice Ao18 t109.length co18, .int .i64 t112, .bool t113, .int .i64 t114, .int .i64 t115, .int .i64 t116, .slice Ao19 t117.length co19]] rfl (by (try simp only [List.map_toArray, List.map_cons, List.map_nil]); first | done | rfl | (simp only [List.length_drop, List.length_take]; rfl)) ?_; (with_reducible refine (spec_MachineLeft.calls k _ _ t103 t106 t107 t108 _ _ t109 t112 t113 t114 t115 t116 _ _ t117 t120 t121 t122 _ ?side1 ?side2 ?side3 ?side4 ?side5 ?side6 A8.out).mono ?_); (case side1 => repeat (first | exact (Kd.R_reads' HO105.out).2.2 | (with_reducible refine Kd.C_alloc ?_ _) | (with_reducible refine Kd.C_drewN ?_ _) | (with_reducible refine Kd.C_drew ?_))); (case side2 => exact (Kd.R_reads' HO105.out).2.1); (case side3 => repeat (first | exact (Kd.R_reads' HO111.out).2.2 | (with_reducible refine Kd.C_alloc ?_ _) | (with_reducible refine Kd.C_drewN ?_ _) | (with_reducible refine Kd.C_drew ?_))); (case side4 => exact (Kd.R_reads' HO111.out).2.1); (case side5 => repeat (first | exact (Kd.R_reads' HO119.out).2.2 | (with_reducible refine Kd.C_alloc ?_ _) | (with_reducible refine Kd.C_drewN ?_ _) | (with_reducible refine Kd.C_drew ?_))); (case side6 => exact (Kd.R_reads' HO119.out).2.1); rintro e w20 ⟨rfl, hb⟩; refine ⟨_, rfl, ?_⟩; have n0_ := rb HO105 hb; have n1_ := rb HO111 hb; have n2_ := rb HO119 hb; have n3_ := bb BK101 hb; have n4_ := bs1 HB hb GE101; clear HO105; clear HO111; clear HO119; clear BK101; clear HB; have HO105 := n0_; have HO111 := n1_; have HO119 := n2_; have BK101 := n3_; have HB := n4_; clear n0_ n1_ n2_ n3_ n4_; (try clear hb); (try clear hb2); (try clear hk); (try clear hi)) | ((with_reducible refine gate_dst (N := 4) rfl ?_); refine box_event ?hg (N := 4) ?hd (cs := #[.int .i64 0, .string (⟨#[]⟩ : ByteArray)]) (t := 29) ?hr ?_; (case hd => rfl); (case hg => rfl); (case hr => first | (go_simp; done) | (go_simp; rfl)); intro gb123 hg w21 hbox hb; have n0_ := rb HO105 hb; have n1_ := rb HO111 hb; have n2_ := rb HO119 hb; have n3_ := bb BK101 hb; have n4_ := bs1 HB hb GE101; have n5_ := Aside0.mk (hbox); have n6_ := bz1 hg HB GE101; have n7_ := bz1 hg HB GE101; have n8_ := nl hg BK101; have n9_ := ng hg BK101; clear HO105; clear HO111; clear HO119; clear BK101; clear HB; have HO105 := n0_; have HO111 := n1_; have HO119 := n2_; have BK101 := n3_; have HB := n4_; have BK123 := n5_; have GW123 := n6_; have GE123 := n7_; have NB101_123 := n8_; have NB123_101 := n9_; clear n0_ n1_ n2_ n3_ n4_ n5_ n6_ n7_ n8_ n9_; clear hb hbox hg; have hnb22 := NB123_101.out; have hnc22 := NB101_123.out; have hcz23_0 : w21.cell? ⟨gb123, 0, none⟩ = some (.int .i64 0) := (blk_cell BK123.out 0).trans rfl; have hcz23_1 : w21.cell? ⟨gb123, 1, none⟩ = some (.string (⟨#[]⟩ : ByteArray)) := (blk_cell BK123.out 1).trans rfl; have hfz23_0 := blk_frozen BK123.out 0; have hfz23_1 := blk_frozen BK123.out 1; have hcz24_0 : w21.cell? ⟨gb101, 0, none⟩ = some (.slice A0_0 l0_0.length c0_0) := (blk_cell BK101.out 0).trans rfl; have hcz24_1 : w21.cell? ⟨gb101, 1, none⟩ = some (.int .i64 a0_1) := (blk_cell BK101.out 1).trans rfl; have hcz24_2 : w21.cell? ⟨gb101, 2, none⟩ = some (.string a0_2) := (blk_cell BK101.out 2).trans rfl; have hcz24_3 : w21.cell? ⟨gb101, 3, none⟩ = some (.int .i64 a0_3) := (blk_cell BK101.out 3).trans rfl; have hcz24_4 : w21.cell? ⟨gb101, 4, none⟩ = some (.slice A0_4 l0_4.length c0_4) := (blk_cell BK101.out 4).trans rfl; have hcz24_5 : w21.cell? ⟨gb101, 5, none⟩ = some (.int .i64 a0_5) := (blk_cell BK101.out 5).trans rfl; have hcz24_6 : w21.cell? ⟨gb101, 6, none⟩ = some (.bool a0_6) := (blk_cell BK101.out 6).trans rfl; have hcz24_7 : w21.cell? ⟨gb101, 7, none⟩ = some (.int .i64 a0_7) := (blk_cell BK101.out 7).trans rfl; have hcz24_8 : w21.cell? ⟨gb101, 8, none⟩ = some (.int .i64 a0_8) := (blk_cell BK101.out 8).trans rfl; have hcz24_9 : w21.cell? ⟨gb101, 9, none⟩ = some (.int .i64 a0_9) := (blk_cell BK101.out 9).trans rfl; have hcz24_10 : w21.cell? ⟨gb101, 10, none⟩ = some (.slice A0_10 l0_10.length c0_10) := (blk_cell BK101.out 10).trans rfl; have hfz24_0 := blk_frozen BK101.out 0; have hfz24_1 := blk_frozen BK101.out 1; have hfz24_2 := blk_frozen BK101.out 2; have hfz24_3 := blk_frozen BK101.out 3; have hfz24_4 := blk_frozen BK101.out 4; have hfz24_5 := blk_frozen BK101.out 5; have hfz24_6 := blk_frozen BK101.out 6; have hfz24_7 := blk_frozen BK101.out 7; have hfz24_8 := blk_frozen BK101.out 8; have hfz24_9 := blk_frozen BK101.out 9; have hfz24_10 := blk_frozen BK101.out 10) | ((with_reducible refine gate_callee (f := 31) rfl ?_); refine goesL_ (some 21) rfl rfl Try.func31 (by kernel_rfl) rfl #[.agg #[.slice A0_0 l0_0.length c0_0, .int .i64 a0_1, .string a0_2, .int .i64 a0_3, .slice A0_4 l0_4.length c0_4, .int .i64 a0_5, .bool a0_6, .int .i64 a0_7, .int .i64 a0_8, .int .i64 a0_9, .slice A0_10 l0_10.length c0_10]] rfl (by (try simp only [List.map_toArray, List.map_cons, List.map_nil]); first | done | rfl | (simp only [List.length_drop, List.length_take]; rfl)) ?_; (with_reducible refine (laws_toMachine.calls k _ _ l0_0 a0_1 a0_2 a0_3 _ _ l0_4 a0_5 a0_6 a0_7 a0_8 a0_9 _ _ l0_10 t124 t127 t128 t129 t130 t133 t134 t135 t136 t137 t138 _ ?side1 ?side2 ?side3 ?side4 ?side5 ?side6 A9.out).mono ?_); (case side1 => exact Kd.C_below HR0_0.out (by repeat (first | (with_reducible first | exact HB.out | apply below_alloc | apply pw_below_drewN | apply below_drew1 | refine below_set ?_ GE101.out | refine below_set ?_ GE123.out) | exact HB.out))); (case side2 => exact HC0_0.out); (case side3 => exact Kd.C_below HR0_4.out (by repeat (first | (with_reducible first | exact HB.out | apply below_alloc | apply pw_below_drewN | apply below_drew1 | refine below_set ?_ GE101.out | refine below_set ?_ GE123.out) | exact HB.out))); (case side4 => exact HC0_4.out); (case side5 => exact Kd.C_below HR0_10.out (by repeat (first | (with_reducible first | exact HB.out | apply below_alloc | apply pw_below_drewN | apply below_drew1 | refine below_set ?_ GE101.out | refine below_set ?_ GE123.out) | exact HB.out))); (case side6 => exact HC0_10.out); rintro e w25 ⟨v125, v131, v139, rfl, ho0, ho1, ho2, hb⟩; refine ⟨_, rfl, ?_⟩; have n0_ := Aside0.mk (Kd.R_elder' (by (with_reducible repeat (first | apply Kd.R_alloc | apply Kd.R_drewN | apply Kd.R_drew)); exact (rf HO105 BK123)) (Kd.R_base ho0) hb); have n1_ := Aside0.mk (Kd.R_elder' (by (with_reducible repeat (first | apply Kd.R_alloc | apply Kd.R_drewN | apply Kd.R_drew)); exact (rf HO111 BK123)) (Kd.R_base ho1) hb); have n2_ := Aside0.mk (Kd.R_elder' (by (with_reducible repeat (first | apply Kd.R_alloc | apply Kd.R_drewN | apply Kd.R_drew)); exact (rf HO119 BK123)) (Kd.R_base ho2) hb); have n3_ := Aside0.mk (Kd.R_lower (Kd.R_new' ho0 (Kd.R_lt (by (with_reducible repeat (first | apply Kd.R_alloc | apply Kd.R_drewN | apply Kd.R_drew)); exact (rf HO105 BK123)))) (below_size (by repeat (first | (with_reducible first | exact HB.out | apply below_alloc | apply pw_below_drewN | apply below_drew1 | refine below_set ?_ GE101.out | refine below_set ?_ GE123.out) | exact HB.out)))); have n4_ := Aside0.mk (Kd.R_lower (Kd.R_new' ho1 (Kd.R_lt (by (with_reducible repeat (first | apply Kd.R_alloc | apply Kd.R_drewN | apply Kd.R_drew)); exact (rf HO111 BK123)))) (below_size (by repeat (first | (with_reducible first | exact HB.out | apply below_alloc | apply pw_below_drewN | apply below_drew1 | refine below_set ?_ GE101.out | refine below_set ?_ GE123.out) | exact HB.out)))); have n5_ := Aside0.mk (Kd.R_lower (Kd.R_new' ho2 (Kd.R_lt (by (with_reducible repeat (first | apply Kd.R_alloc | apply Kd.R_drewN | apply Kd.R_drew)); exact (rf HO119 BK123)))) (below_size (by repeat (first | (with_reducible first | exact HB.out | apply below_alloc | apply pw_below_drewN | apply below_drew1 | refine below_set ?_ GE101.out | refine below_set ?_ GE123.out) | exact HB.out)))); have n6_ := Aside0.mk (blk_below (dq BK101 NB101_123) hb); have n7_ := Aside0.mk (blk_below (g := gb123) (o := .cells #[.int .i64 t120, .string t121] 29 (0, 0)) (by (with_reducible repeat (first | refine blk_drewN ?_ _ | refine blk_drew ?_ | refine blk_alloc ?_ _)); exact bp2 BK123.out) hb); have n8_ := bs2 HB hb GE101 GE123; clear HO105; clear HO111; clear HO119; clear BK101; clear BK123; clear HB; have HO105 := n0_; have HO111 := n1_; have HO119 := n2_; have HO126 := n3_; have HO132 := n4_; have HO140 := n5_; have BK101 := n6_; have BK123 := n7_; have HB := n8_; clear n0_ n1_ n2_ n3_ n4_ n5_ n6_ n7_ n8_; (try clear hb); (try clear hb2); (try clear hk); (try clear hi); (try clear ho0); (try clear ho1); (try clear ho2)) | ((with_reducible refine gate_dst (N := 6) rfl ?_); refine box_event ?hg (N := 6) ?hd (cs := #[.slice none 0 0, .int .i64 0, .string (⟨#[]⟩ : ByteArray), .int .i64 0, .slice none 0 0, .int .i64 0, .bool false, .int .i64 0, .int .i64 0, .int .i64 0, .slice none 0 0]) (t := 36) ?hr ?_; (case hd => rfl); (case hg => rfl); (case hr => first | (go_simp; done) | (go_simp; rfl)); intro gb141 hg w26 hbox hb; have n0_ := rb HO105 hb; have n1_ := rb HO111 hb; have n2_ := rb HO119 hb; have n3_ := rb HO126 hb; have n4_ := rb HO132 hb; have n5_ := rb HO140 hb; have n6_ := bb BK101 hb; have n7_ := bb BK123 hb; have n8_ := bs2 HB hb GE101 GE123; have n9_ := Aside0.mk (hbox); have n10_ := bz2 hg HB GE101 GE123; have n11_ := bz2 hg HB GE101 GE123; have n12_ := nl hg BK101; have n13_ := ng hg BK101; have n14_ := nl hg BK123; have n15_ := ng hg BK123; clear HO105; clear HO111; clear HO119; clear HO126; clear HO132; clear HO140; clear BK101; clear BK123; clear HB; have HO105 := n0_; have HO111 := n1_; have HO119 := n2_; have HO126 := n3_; have HO132 := n4_; have HO140 := n5_; have BK101 := n6_; have BK123 := n7_; have HB := n8_; have BK141 := n9_; have GW141 := n10_; have GE141 := n11_; have NB101_141 := n12_; have NB141_101 := n13_; have NB123_141 := n14_; have NB141_123 := n15_; clear n0_ n1_ n2_ n3_ n4_ n5_ n6_ n7_ n8_ n9_ n10_ n11_ n12_ n13_ n14_ n15_; clear hb hbox hg; obtain ⟨Ao27, co27, eo27⟩ := Kd.R_slice HO126.out; subst eo27; have hnb28 := NB141_101.out; have hnc28 := NB101_141.out; have hnb29 := NB141_123.out; have hnc29 := NB123_141.out; have hcz30_0 : w26.cell? ⟨gb141, 0, none⟩ = some (.slice none 0 0) := (blk_cell BK141.out 0).trans rfl; have hcz30_1 : w26.cell? ⟨gb141, 1, none⟩ = some (.int .i64 0) := (blk_cell BK141.out 1).trans rfl; have hcz30_2 : w26.cell? ⟨gb141, 2, none⟩ = some (.string (⟨#[]⟩ : ByteArray)) := (blk_cell BK141.out 2).trans rfl; have hcz30_3 : w26.cell? ⟨gb141, 3, none⟩ = some (.int .i64 0) := (blk_cell BK141.out 3).trans rfl; have hcz30_4 : w26.cell? ⟨gb141, 4, none⟩ = some (.slice none 0 0) := (blk_cell BK141.out 4).trans rfl; have hcz30_5 : w26.cell? ⟨gb141, 5, none⟩ = some (.int .i64 0) := (blk_cell BK141.out 5).trans rfl; have hcz30_6 : w26.cell? ⟨gb141, 6, none⟩ = some (.bool false) := (blk_cell BK141.out 6).trans rfl; have hcz30_7 : w26.cell? ⟨gb141, 7, none⟩ = some (.int .i64 0) := (blk_cell BK141.out 7).trans rfl; have hcz30_8 : w26.cell? ⟨gb141, 8, none⟩ = some (.int .i64 0) := (blk_cell BK141.out 8).trans rfl; have hcz30_9 : w26.cell? ⟨gb141, 9, none⟩ = some (.int .i64 0) := (blk_cell BK141.out 9).trans rfl; have hcz30_10 : w26.cell? ⟨gb141, 10, none⟩ = some (.slice none 0 0) := (blk_cell BK141.out 10).trans rfl; have hfz30_0 := blk_frozen BK141.out 0; have hfz30_1 := blk_frozen BK141.out 1; have hfz30_2 := blk_frozen BK141.out 2; have hfz30_3 := blk_frozen BK141.out 3; have hfz30_4 := blk_frozen BK141.out 4; have hfz30_5 := blk_frozen BK141.out 5; have hfz30_6 := blk_frozen BK141.out 6; have hfz30_7 := blk_frozen BK141.out 7; have hfz30_8 := blk_frozen BK141.out 8; have hfz30_9 := blk_frozen BK141.out 9; have hfz30_10 := blk_frozen BK141.out 10; obtain ⟨Ao31, co31, eo31⟩ := Kd.R_slice HO132.out; subst eo31; obtain ⟨Ao32, co32, eo32⟩ := Kd.R_slice HO140.out; subst eo32) | ((with_reducible refine gate_callee (f := 36) rfl ?_); refine goesL_ (some 24) rfl rfl Try.func36 (by kernel_rfl) rfl #[.agg #[.slice Ao27 t124.length co27, .int .i64 t127, .string t128, .int .i64 t129, .slice Ao31 t130.length co31, .int .i64 t133, .bool t134, .int .i64 t135, .int .i64 t136, .int .i64 t137, .slice Ao32 t138.length co32]] rfl (by (try simp only [List.map_toArray, List.map_cons, List.map_nil]); first | done | rfl | (simp only [List.length_drop, List.length_take]; rfl)) ?_; (with_reducible refine (impl_MachineLeft.calls k _ _ t124 t127 t128 t129 _ _ t130 t133 t134 t135 t136 t137 _ _ t138 t142 t143 t144 _ ?side1 ?side2 ?side3 ?side4 ?side5 ?side6 A10.out).mono ?_); (case side1 => refine (Kd.R_reads' (e := 4) (base := w.heap.size) (ok := fun k_ => (True ∧ some k_ ≠ (.slice Ao17 t103.length co17 : Value).ownBlock)) (n := t124.length) (c := co27) ?_).2.2; exact (by (with_reducible repeat (first | apply Kd.R_alloc | apply Kd.R_drewN | apply Kd.R_drew)); exact (rf HO126 BK141))); (case side2 => exact (Kd.R_reads' HO126.out).2.1); (case side3 => refine (Kd.R_reads' (e := 3) (base := w.heap.size) (ok := fun k_ => (True ∧ some k_ ≠ (.slice Ao18 t109.length co18 : Value).ownBlock)) (n := t130.length) (c := co31) ?_).2.2; exact (by (with_reducible repeat (first | apply Kd.R_alloc | apply Kd.R_drewN | apply Kd.R_drew)); exact (rf HO132 BK141))); (case side4 => exact (Kd.R_reads' HO132.out).2.1); (case side5 => refine (Kd.R_reads' (e := 86) (base := w.heap.size) (ok := fun k_ => (True ∧ some k_ ≠ (.slice Ao19 t117.length co19 : Value).ownBlock)) (n := t138.length) (c := co32) ?_).2.2; exact (by (with_reducible repeat (first | apply Kd.R_alloc | apply Kd.R_drewN | apply Kd.R_drew)); exact (rf HO140 BK141))); (case side6 => exact (Kd.R_reads' HO140.out).2.1); rintro e w33 ⟨rfl, hb⟩; refine ⟨_, rfl, ?_⟩; have n0_ := rbf HO105 BK141 hb; have n1_ := rbf HO111 BK141 hb; have n2_ := rbf HO119 BK141 hb; have n3_ := rbf HO126 BK141 hb; have n4_ := rbf HO132 BK141 hb; have n5_ := rbf HO140 BK141 hb; have n6_ := Aside0.mk (blk_below (dq BK101 NB101_141) hb); have n7_ := Aside0.mk (blk_below (dq BK123 NB123_141) hb); have n8_ := Aside0.mk (blk_below (g := gb141) (o := .cells #[.slice Ao27 t124.length co27, .int .i64 t127, .string t128, .int .i64 t129, .slice Ao31 t130.length co31, .int .i64 t133, .bool t134, .int .i64 t135, .int .i64 t136, .int .i64 t137, .slice Ao32 t138.length co32] 36 (0, 0)) (by (with_reducible repeat (first | refine blk_drewN ?_ _ | refine blk_drew ?_ | refine blk_alloc ?_ _)); exact bp11 BK141.out) hb); have n9_ := bs3 HB hb GE101 GE123 GE141; clear HO105; clear HO111; clear HO119; clear HO126; clear HO132; clear HO140; clear BK101; clear BK123; clear BK141; clear HB; have HO105 := n0_; have HO111 := n1_; have HO119 := n2_; have HO126 := n3_; have HO132 := n4_; have HO140 := n5_; have BK101 := n6_; have BK123 := n7_; have BK141 := n8_; have HB := n9_; clear n0_ n1_ n2_ n3_ n4_ n5_ n6_ n7_ n8_ n9_; (try clear hb); (try clear hb2); (try clear hk); (try clear hi)) | ((with_reducible refine gate_dst (N := 7) rfl ?_); refine box_event ?hg (N := 7) ?hd (cs := #[.int .i64 0, .string (⟨#[]⟩ : ByteArray)]) (t := 29) ?hr ?_; (case hd => rfl); (case hg => rfl); (case hr => first | (go_simp; done) | (go_simp; rfl)); intro gb145 hg w34 hbox hb; have n0_ := rb HO105 hb; have n1_ := rb HO111 hb; have n2_ := rb HO119 hb; have n3_ := rb HO126 hb; have n4_ := rb HO132 hb; have n5_ := rb HO140 hb; have n6_ := bb BK101 hb; have n7_ := bb BK123 hb; have n8_ := bb BK141 hb; have n9_ := bs3 HB hb GE101 GE123 GE141; have n10_ := Aside0.mk (hbox); have n11_ := bz3 hg HB GE101 GE123 GE141; have n12_ := bz3 hg HB GE101 GE123 GE141; have n13_ := nl hg BK101; have n14_ := ng hg BK101; have n15_ := nl hg BK123; have n16_ := ng hg BK123; have n17_ := nl hg BK141; have n18_ := ng hg BK141; clear HO105; clear HO111; clear HO119; clear HO126; clear HO132; clear HO140; clear BK101; clear BK123; clear BK141; clear HB; have HO105 := n0_; have HO111 := n1_; have HO119 := n2_; have HO126 := n3_; have HO132 := n4_; have HO140 := n5_; have BK101 := n6_; have BK123 := n7_; have BK141 := n8_; have HB := n9_; have BK145 := n10_; have GW145 := n11_; have GE145 := n12_; have NB101_145 := n13_; have NB145_101 := n14_; have NB123_145 := n15_; have NB145_123 := n16_; have NB141_145 := n17_; have NB145_141 := n18_; clear n0_ n1_ n2_ n3_ n4_ n5_ n6_ n7_ n8_ n9_ n10_ n11_ n12_ n13_ n14_ n15_ n16_ n17_ n18_; clear hb hbox hg; have hnb35 := NB145_101.out; have hnc35 := NB101_145.out; have hnb36 := NB145_123.out; have hnc36 := NB123_145.out; have hnb37 := NB145_141.out; have hnc37 := NB141_145.out; have hcz38_0 : w34.cell? ⟨gb145, 0, none⟩ = some (.int .i64 0) := (blk_cell BK145.out 0).trans rfl; have hcz38_1 : w34.cell? ⟨gb145, 1, none⟩ = some (.string (⟨#[]⟩ : ByteArray)) := (blk_cell BK145.out 1).trans rfl; have hfz38_0 := blk_frozen BK145.out 0; have hfz38_1 := blk_frozen BK145.out 1))
  (try simp only [Act.put, List.setIfInBounds_toArray, List.set_cons_zero, List.set_cons_succ])
  go_cut [35] (fun v35 wc => ∃ (kq : Nat) (x35_10 : Bool), v35 = .bool x35_10 ∧ Aside0 (laws_FnExactMachineLeft.j0 kq x35_10 l0_0 a0_1 a0_2 a0_3 l0_4 a0_5 a0_6 a0_7 a0_8 a0_9 l0_10 t124 t127 t128 t129 t130 t133 t134 t135 t136 t137 t138 = some r) ∧ Aside0 (kq ≤ k) ∧ Aside0 (Kd.R Kd.bool 4 wc w.heap.size (fun _ => True) (.slice Ao27 t124.length co27) t124) ∧ Aside0 (Kd.R (Kd.int .i64) 3 wc w.heap.size (fun _ => True) (.slice Ao31 t130.length co31) t130) ∧ Aside0 (Kd.R k86 86 wc w.heap.size (fun _ => True) (.slice Ao32 t138.length co32) t138) ∧ Aside0 (wc.heap[gb101]? = some (.cells #[(.slice A0_0 l0_0.length c0_0), .int .i64 a0_1, .string a0_2, .int .i64 a0_3, (.slice A0_4 l0_4.length c0_4), .int .i64 a0_5, .bool a0_6, .int .i64 a0_7, .int .i64 a0_8, .int .i64 a0_9, (.slice A0_10 l0_10.length c0_10)] 45 (0, 0))) ∧ Aside0 (wc.heap[gb123]? = some (.cells #[.int .i64 t120, .string t121] 29 (0, 0))) ∧ Aside0 (wc.heap[gb141]? = some (.cells #[(.slice Ao27 t124.length co27), .int .i64 t127, .string t128, .int .i64 t129, (.slice Ao31 t130.length co31), .int .i64 t133, .bool t134, .int .i64 t135, .int .i64 t136, .int .i64 t137, (.slice Ao32 t138.length co32)] 36 (0, 0))) ∧ Aside0 (wc.heap[gb145]? = some (.cells #[.int .i64 t142, .string t143] 29 (0, 0))) ∧ Aside0 (Below w.heap.size w wc))
  case first =>
   have H := HC11.out; clear HC11
   replace H := Option.bind_eq_some_iff.mp H
   obtain ⟨t146, A390, H⟩ := H
   replace H : (if t146 = true then (laws_FnExactMachineLeft.j0 k (t144 != t122) l0_0 a0_1 a0_2 a0_3 l0_4 a0_5 a0_6 a0_7 a0_8 a0_9 l0_10 t124 t127 t128 t129 t130 t133 t134 t135 t136 t137 t138) else (laws_FnExactMachineLeft.j0 k true l0_0 a0_1 a0_2 a0_3 l0_4 a0_5 a0_6 a0_7 a0_8 a0_9 l0_10 t124 t127 t128 t129 t130 t133 t134 t135 t136 t137 t138)) = some r := H
   have A39 := Aside0.mk A390; clear A390
   by_cases c40 : t146 = true
   ·subst c40
    have H1 : (laws_FnExactMachineLeft.j0 k (t144 != t122) l0_0 a0_1 a0_2 a0_3 l0_4 a0_5 a0_6 a0_7 a0_8 a0_9 l0_10 t124 t127 t128 t129 t130 t133 t134 t135 t136 t137 t138) = some r := by rw [if_pos rfl] at H; exact H
    clear H; have H := H1; clear H1
    have H' := Aside0.mk H
    clear H; have hnb41 := NB145_101.out; have hnc41 := NB101_145.out; have hnb42 := NB145_123.out; have hnc42 := NB123_145.out; have hnb43 := NB145_141.out; have hnc43 := NB141_145.out; have hcz44_0 : w34.cell? ⟨gb145, 0, none⟩ = some (.int .i64 0) := (blk_cell BK145.out 0).trans rfl; have hcz44_1 : w34.cell? ⟨gb145, 1, none⟩ = some (.string (⟨#[]⟩ : ByteArray)) := (blk_cell BK145.out 1).trans rfl; have hfz44_0 := blk_frozen BK145.out 0; have hfz44_1 := blk_frozen BK145.out 1; have hnb45 := NB123_101.out; have hnc45 := NB101_123.out; have hnb46 := NB123_141.out; have hnc46 := NB141_123.out; have hcz47_0 : w34.cell? ⟨gb123, 0, none⟩ = some (.int .i64 t120) := (blk_cell BK123.out 0).trans rfl; have hcz47_1 : w34.cell? ⟨gb123, 1, none⟩ = some (.string t121) := (blk_cell BK123.out 1).trans rfl; have hfz47_0 := blk_frozen BK123.out 0; have hfz47_1 := blk_frozen BK123.out 1
    go_wp2_with (first | ((with_reducible refine gate_callee (f := 37) rfl ?_); refine goesL_ (some 29) rfl rfl Try.func37 (by kernel_rfl) rfl #[.agg #[.int .i64 t142, .string t143], .agg #[.int .i64 t120, .string t121]] rfl (by (try simp only [List.map_toArray, List.map_cons, List.map_nil]); first | done | rfl | (simp only [List.length_drop, List.length_take]; rfl)) ?_; (with_reducible refine (laws_eqTable.calls t142 t143 t120 t121 true _ A39.out).mono ?_); rintro e w48 ⟨rfl, hb⟩; refine ⟨_, rfl, ?_⟩; have n0_ := rbf HO105 BK145 hb; have n1_ := rbf HO111 BK145 hb; have n2_ := rbf HO119 BK145 hb; have n3_ := rbf HO126 BK145 hb; have n4_ := rbf HO132 BK145 hb; have n5_ := rbf HO140 BK145 hb; have n6_ := Aside0.mk (blk_below (dq BK101 NB101_145) hb); have n7_ := Aside0.mk (blk_below (dq BK123 NB123_145) hb); have n8_ := Aside0.mk (blk_below (dq BK141 NB141_145) hb); have n9_ := Aside0.mk (blk_below (g := gb145) (o := .cells #[.int .i64 t142, .string t143] 29 (0, 0)) (by (with_reducible repeat (first | refine blk_drewN ?_ _ | refine blk_drew ?_ | refine blk_alloc ?_ _)); exact bp2 BK145.out) hb); have n10_ := bs4 HB hb GE101 GE123 GE141 GE145; clear HO105; clear HO111; clear HO119; clear HO126; clear HO132; clear HO140; clear BK101; clear BK123; clear BK141; clear BK145; clear HB; have HO105 := n0_; have HO111 := n1_; have HO119 := n2_; have HO126 := n3_; have HO132 := n4_; have HO140 := n5_; have BK101 := n6_; have BK123 := n7_; have BK141 := n8_; have BK145 := n9_; have HB := n10_; clear n0_ n1_ n2_ n3_ n4_ n5_ n6_ n7_ n8_ n9_ n10_; (try clear hb); (try clear hb2); (try clear hk); (try clear hi)))
    go_meet
    case rel => exact ⟨_, ((t144 != t122)), (by first | rfl | (simp; done) | (simp [*]; done)), H', ⟨by first | omega | exact Nat.le_refl _⟩, ⟨by (with_reducible repeat (first | apply Kd.R_alloc | apply Kd.R_drewN | apply Kd.R_drew)); exact Kd.R_mono HO126.out (fun _ hk => trivial)⟩, ⟨by (with_reducible repeat (first | apply Kd.R_alloc | apply Kd.R_drewN | apply Kd.R_drew)); exact Kd.R_mono HO132.out (fun _ hk => trivial)⟩, ⟨by (with_reducible repeat (first | apply Kd.R_alloc | apply Kd.R_drewN | apply Kd.R_drew)); exact Kd.R_mono HO140.out (fun _ hk => trivial)⟩, ⟨by (with_reducible repeat (first | refine blk_drewN ?_ _ | refine blk_drew ?_ | refine blk_alloc ?_ _)); exact BK101.out⟩, ⟨by (with_reducible repeat (first | refine blk_drewN ?_ _ | refine blk_drew ?_ | refine blk_alloc ?_ _)); exact BK123.out⟩, ⟨by (with_reducible repeat (first | refine blk_drewN ?_ _ | refine blk_drew ?_ | refine blk_alloc ?_ _)); exact BK141.out⟩, ⟨by (with_reducible repeat (first | refine blk_drewN ?_ _ | refine blk_drew ?_ | refine blk_alloc ?_ _)); exact BK145.out⟩, ⟨by repeat (first | (with_reducible first | exact HB.out | apply below_alloc | apply pw_below_drewN | apply below_drew1 | refine below_set ?_ GE101.out | refine below_set ?_ GE123.out | refine below_set ?_ GE141.out | refine below_set ?_ GE145.out) | exact HB.out)⟩⟩
   ·replace c40 := Bool.eq_false_iff.mpr c40
    subst c40
    have H1 : (laws_FnExactMachineLeft.j0 k true l0_0 a0_1 a0_2 a0_3 l0_4 a0_5 a0_6 a0_7 a0_8 a0_9 l0_10 t124 t127 t128 t129 t130 t133 t134 t135 t136 t137 t138) = some r := by rw [if_neg (show ¬ (false = true) by decide)] at H; exact H
    clear H; have H := H1; clear H1
    have H' := Aside0.mk H
    clear H; have hnb49 := NB145_101.out; have hnc49 := NB101_145.out; have hnb50 := NB145_123.out; have hnc50 := NB123_145.out; have hnb51 := NB145_141.out; have hnc51 := NB141_145.out; have hcz52_0 : w34.cell? ⟨gb145, 0, none⟩ = some (.int .i64 0) := (blk_cell BK145.out 0).trans rfl; have hcz52_1 : w34.cell? ⟨gb145, 1, none⟩ = some (.string (⟨#[]⟩ : ByteArray)) := (blk_cell BK145.out 1).trans rfl; have hfz52_0 := blk_frozen BK145.out 0; have hfz52_1 := blk_frozen BK145.out 1; have hnb53 := NB123_101.out; have hnc53 := NB101_123.out; have hnb54 := NB123_141.out; have hnc54 := NB141_123.out; have hcz55_0 : w34.cell? ⟨gb123, 0, none⟩ = some (.int .i64 t120) := (blk_cell BK123.out 0).trans rfl; have hcz55_1 : w34.cell? ⟨gb123, 1, none⟩ = some (.string t121) := (blk_cell BK123.out 1).trans rfl; have hfz55_0 := blk_frozen BK123.out 0; have hfz55_1 := blk_frozen BK123.out 1
    go_wp2_with (first | ((with_reducible refine gate_callee (f := 37) rfl ?_); refine goesL_ (some 29) rfl rfl Try.func37 (by kernel_rfl) rfl #[.agg #[.int .i64 t142, .string t143], .agg #[.int .i64 t120, .string t121]] rfl (by (try simp only [List.map_toArray, List.map_cons, List.map_nil]); first | done | rfl | (simp only [List.length_drop, List.length_take]; rfl)) ?_; (with_reducible refine (laws_eqTable.calls t142 t143 t120 t121 false _ A39.out).mono ?_); rintro e w56 ⟨rfl, hb⟩; refine ⟨_, rfl, ?_⟩; have n0_ := rbf HO105 BK145 hb; have n1_ := rbf HO111 BK145 hb; have n2_ := rbf HO119 BK145 hb; have n3_ := rbf HO126 BK145 hb; have n4_ := rbf HO132 BK145 hb; have n5_ := rbf HO140 BK145 hb; have n6_ := Aside0.mk (blk_below (dq BK101 NB101_145) hb); have n7_ := Aside0.mk (blk_below (dq BK123 NB123_145) hb); have n8_ := Aside0.mk (blk_below (dq BK141 NB141_145) hb); have n9_ := Aside0.mk (blk_below (g := gb145) (o := .cells #[.int .i64 t142, .string t143] 29 (0, 0)) (by (with_reducible repeat (first | refine blk_drewN ?_ _ | refine blk_drew ?_ | refine blk_alloc ?_ _)); exact bp2 BK145.out) hb); have n10_ := bs4 HB hb GE101 GE123 GE141 GE145; clear HO105; clear HO111; clear HO119; clear HO126; clear HO132; clear HO140; clear BK101; clear BK123; clear BK141; clear BK145; clear HB; have HO105 := n0_; have HO111 := n1_; have HO119 := n2_; have HO126 := n3_; have HO132 := n4_; have HO140 := n5_; have BK101 := n6_; have BK123 := n7_; have BK141 := n8_; have BK145 := n9_; have HB := n10_; clear n0_ n1_ n2_ n3_ n4_ n5_ n6_ n7_ n8_ n9_ n10_; (try clear hb); (try clear hb2); (try clear hk); (try clear hi)))
    go_meet
    case rel => exact ⟨_, (true), (by first | rfl | (simp; done) | (simp [*]; done)), H', ⟨by first | omega | exact Nat.le_refl _⟩, ⟨by (with_reducible repeat (first | apply Kd.R_alloc | apply Kd.R_drewN | apply Kd.R_drew)); exact Kd.R_mono HO126.out (fun _ hk => trivial)⟩, ⟨by (with_reducible repeat (first | apply Kd.R_alloc | apply Kd.R_drewN | apply Kd.R_drew)); exact Kd.R_mono HO132.out (fun _ hk => trivial)⟩, ⟨by (with_reducible repeat (first | apply Kd.R_alloc | apply Kd.R_drewN | apply Kd.R_drew)); exact Kd.R_mono HO140.out (fun _ hk => trivial)⟩, ⟨by (with_reducible repeat (first | refine blk_drewN ?_ _ | refine blk_drew ?_ | refine blk_alloc ?_ _)); exact BK101.out⟩, ⟨by (with_reducible repeat (first | refine blk_drewN ?_ _ | refine blk_drew ?_ | refine blk_alloc ?_ _)); exact BK123.out⟩, ⟨by (with_reducible repeat (first | refine blk_drewN ?_ _ | refine blk_drew ?_ | refine blk_alloc ?_ _)); exact BK141.out⟩, ⟨by (with_reducible repeat (first | refine blk_drewN ?_ _ | refine blk_drew ?_ | refine blk_alloc ?_ _)); exact BK145.out⟩, ⟨by repeat (first | (with_reducible first | exact HB.out | apply below_alloc | apply pw_below_drewN | apply below_drew1 | refine below_set ?_ GE101.out | refine below_set ?_ GE123.out | refine below_set ?_ GE141.out | refine below_set ?_ GE145.out) | exact HB.out)⟩⟩
  case rest =>
   clear HC11
   (try clear c2); (try clear p2); (try clear c3); (try clear c3b0); (try clear c4); (try clear c5); (try clear c8); (try clear c22); (try clear c28); (try clear c29); (try clear c31); (try clear c35); (try clear c36); (try clear c37); (try clear c40); (try clear c41); (try clear c42); (try clear c43); (try clear c45); (try clear c46); (try clear c49); (try clear c50); (try clear c51); (try clear c53); (try clear c54); (try clear hcz13_0); (try clear hcz13_1); (try clear hcz13_10); (try clear hcz13_2); (try clear hcz13_3); (try clear hcz13_4); (try clear hcz13_5); (try clear hcz13_6); (try clear hcz13_7); (try clear hcz13_8); (try clear hcz13_9); (try clear hcz15_0); (try clear hcz15_1); (try clear hcz15_10); (try clear hcz15_2); (try clear hcz15_3); (try clear hcz15_4); (try clear hcz15_5); (try clear hcz15_6); (try clear hcz15_7); (try clear hcz15_8); (try clear hcz15_9); (try clear hcz23_0); (try clear hcz23_1); (try clear hcz24_0); (try clear hcz24_1); (try clear hcz24_10); (try clear hcz24_2); (try clear hcz24_3); (try clear hcz24_4); (try clear hcz24_5); (try clear hcz24_6); (try clear hcz24_7); (try clear hcz24_8); (try clear hcz24_9); (try clear hcz30_0); (try clear hcz30_1); (try clear hcz30_10); (try clear hcz30_2); (try clear hcz30_3); (try clear hcz30_4); (try clear hcz30_5); (try clear hcz30_6); (try clear hcz30_7); (try clear hcz30_8); (try clear hcz30_9); (try clear hcz38_0); (try clear hcz38_1); (try clear hcz44_0); (try clear hcz44_1); (try clear hcz47_0); (try clear hcz47_1); (try clear hcz52_0); (try clear hcz52_1); (try clear hcz55_0); (try clear hcz55_1); (try clear hcz5_0); (try clear hcz5_1); (try clear hcz5_10); (try clear hcz5_2); (try clear hcz5_3); (try clear hcz5_4); (try clear hcz5_5); (try clear hcz5_6); (try clear hcz5_7); (try clear hcz5_8); (try clear hcz5_9); (try clear hfz13_0); (try clear hfz13_1); (try clear hfz13_10); (try clear hfz13_2); (try clear hfz13_3); (try clear hfz13_4); (try clear hfz13_5); (try clear hfz13_6); (try clear hfz13_7); (try clear hfz13_8); (try clear hfz13_9); (try clear hfz15_0); (try clear hfz15_1); (try clear hfz15_10); (try clear hfz15_2); (try clear hfz15_3); (try clear hfz15_4); (try clear hfz15_5); (try clear hfz15_6); (try clear hfz15_7); (try clear hfz15_8); (try clear hfz15_9); (try clear hfz23_0); (try clear hfz23_1); (try clear hfz24_0); (try clear hfz24_1); (try clear hfz24_10); (try clear hfz24_2); (try clear hfz24_3); (try clear hfz24_4); (try clear hfz24_5); (try clear hfz24_6); (try clear hfz24_7); (try clear hfz24_8); (try clear hfz24_9); (try clear hfz30_0); (try clear hfz30_1); (try clear hfz30_10); (try clear hfz30_2); (try clear hfz30_3); (try clear hfz30_4); (try clear hfz30_5); (try clear hfz30_6); (try clear hfz30_7); (try clear hfz30_8); (try clear hfz30_9); (try clear hfz38_0); (try clear hfz38_1); (try clear hfz44_0); (try clear hfz44_1); (try clear hfz47_0); (try clear hfz47_1); (try clear hfz52_0); (try clear hfz52_1); (try clear hfz55_0); (try clear hfz55_1); (try clear hfz5_0); (try clear hfz5_1); (try clear hfz5_10); (try clear hfz5_2); (try clear hfz5_3); (try clear hfz5_4); (try clear hfz5_5); (try clear hfz5_6); (try clear hfz5_7); (try clear hfz5_8); (try clear hfz5_9)
   obtain ⟨kq, x35_10, rfl, HA, HJ10, HO_142000, HO_142004, HO_142010, BK101, BK123, BK141, BK145, HB⟩ := hcut
   cases kq with
      | zero => exact absurd HA.out (by simp [laws_FnExactMachineLeft.j0])
      | succ kj10 =>
    have H := HA.out; clear HA
    simp only [laws_FnExactMachineLeft.j0] at H
    by_cases c57 : x35_10 = true
    ·subst c57
     have H1 : (some false) = some r := by rw [if_pos rfl] at H; exact H
     clear H; have H := H1; clear H1
     exact absurd ((Option.some.inj H).trans HT.out) (by decide)
    ·replace c57 := Bool.eq_false_iff.mpr c57
     subst c57
     have H1 : ((laws_toMachine.f kj10 l0_0 a0_1 a0_2 a0_3 l0_4 a0_5 a0_6 a0_7 a0_8 a0_9 l0_10).bind fun bt147 => ((laws_eqMachine.f kj10 t124 t127 t128 t129 t130 t133 t134 t135 t136 t137 t138 bt147.1 bt147.2.1 bt147.2.2.1 bt147.2.2.2.1 bt147.2.2.2.2.1 bt147.2.2.2.2.2.1 bt147.2.2.2.2.2.2.1 bt147.2.2.2.2.2.2.2.1 bt147.2.2.2.2.2.2.2.2.1 bt147.2.2.2.2.2.2.2.2.2.1 bt147.2.2.2.2.2.2.2.2.2.2).bind fun t164 => (if t164 = true then (some true) else (some false)))) = some r := by rw [if_neg (show ¬ (false = true) by decide)] at H; exact H
     clear H; have H := H1; clear H1
     replace H := Option.bind_eq_some_iff.mp H
     obtain ⟨⟨t147, t150, t151, t152, t153, t156, t157, t158, t159, t160, t161⟩, A580, H⟩ := H
     replace H : ((laws_eqMachine.f kj10 t124 t127 t128 t129 t130 t133 t134 t135 t136 t137 t138 t147 t150 t151 t152 t153 t156 t157 t158 t159 t160 t161).bind fun t164 => (if t164 = true then (some true) else (some false))) = some r := H
     have A58 := Aside0.mk A580; clear A580
     replace H := Option.bind_eq_some_iff.mp H
     obtain ⟨t164, A590, H⟩ := H
     replace H : (if t164 = true then (some true) else (some false)) = some r := H
     have A59 := Aside0.mk A590; clear A590
     by_cases c60 : t164 = true
     ·subst c60
      have H1 : (some true) = some r := by rw [if_pos rfl] at H; exact H
      clear H; have H := H1; clear H1
      obtain rfl := Option.some.inj H
      try go_wp2
      have n0_ := Aside0.mk (Kd.R_drew HO_142000.out); have n1_ := Aside0.mk (Kd.R_drew HO_142004.out); have n2_ := Aside0.mk (Kd.R_drew HO_142010.out); have n3_ := Aside0.mk (blk_drew BK101.out); have n4_ := Aside0.mk (blk_drew BK123.out); have n5_ := Aside0.mk (blk_drew BK141.out); have n6_ := Aside0.mk (blk_drew BK145.out); have n7_ := Aside0.mk (below_drew1 HB.out); clear HO_142000; clear HO_142004; clear HO_142010; clear BK101; clear BK123; clear BK141; clear BK145; clear HB; have HO_142000 := n0_; have HO_142004 := n1_; have HO_142010 := n2_; have BK101 := n3_; have BK123 := n4_; have BK141 := n5_; have BK145 := n6_; have HB := n7_; clear n0_ n1_ n2_ n3_ n4_ n5_ n6_ n7_
      refine start_ (n := 5) (S := fun w' => w'.cell? ⟨gb141, 0, none⟩ = some (.slice Ao27 t124.length co27) ∧ w'.cell? ⟨gb141, 1, none⟩ = some (.int .i64 t127) ∧ w'.cell? ⟨gb141, 2, none⟩ = some (.string t128) ∧ w'.cell? ⟨gb141, 3, none⟩ = some (.int .i64 t129) ∧ w'.cell? ⟨gb141, 4, none⟩ = some (.slice Ao31 t130.length co31) ∧ w'.cell? ⟨gb141, 5, none⟩ = some (.int .i64 t133) ∧ w'.cell? ⟨gb141, 6, none⟩ = some (.bool t134) ∧ w'.cell? ⟨gb141, 7, none⟩ = some (.int .i64 t135) ∧ w'.cell? ⟨gb141, 8, none⟩ = some (.int .i64 t136) ∧ w'.cell? ⟨gb141, 9, none⟩ = some (.int .i64 t137) ∧ w'.cell? ⟨gb141, 10, none⟩ = some (.slice Ao32 t138.length co32) ∧ w'.cell? ⟨gb101, 0, none⟩ = some (.slice A0_0 l0_0.length c0_0) ∧ w'.cell? ⟨gb101, 1, none⟩ = some (.int .i64 a0_1) ∧ w'.cell? ⟨gb101, 2, none⟩ = some (.string a0_2) ∧ w'.cell? ⟨gb101, 3, none⟩ = some (.int .i64 a0_3) ∧ w'.cell? ⟨gb101, 4, none⟩ = some (.slice A0_4 l0_4.length c0_4) ∧ w'.cell? ⟨gb101, 5, none⟩ = some (.int .i64 a0_5) ∧ w'.cell? ⟨gb101, 6, none⟩ = some (.bool a0_6) ∧ w'.cell? ⟨gb101, 7, none⟩ = some (.int .i64 a0_7) ∧ w'.cell? ⟨gb101, 8, none⟩ = some (.int .i64 a0_8) ∧ w'.cell? ⟨gb101, 9, none⟩ = some (.int .i64 a0_9) ∧ w'.cell? ⟨gb101, 10, none⟩ = some (.slice A0_10 l0_10.length c0_10)) (ds := []) #[false, false, false, false, false] (by kernel_rfl) rfl rfl ⟨(blk_cell BK141.out 0).trans rfl, (blk_cell BK141.out 1).trans rfl, (blk_cell BK141.out 2).trans rfl, (blk_cell BK141.out 3).trans rfl, (blk_cell BK141.out 4).trans rfl, (blk_cell BK141.out 5).trans rfl, (blk_cell BK141.out 6).trans rfl, (blk_cell BK141.out 7).trans rfl, (blk_cell BK141.out 8).trans rfl, (blk_cell BK141.out 9).trans rfl, (blk_cell BK141.out 10).trans rfl, (blk_cell BK101.out 0).trans rfl, (blk_cell BK101.out 1).trans rfl, (blk_cell BK101.out 2).trans rfl, (blk_cell BK101.out 3).trans rfl, (blk_cell BK101.out 4).trans rfl, (blk_cell BK101.out 5).trans rfl, (blk_cell BK101.out 6).trans rfl, (blk_cell BK101.out 7).trans rfl, (blk_cell BK101.out 8).trans rfl, (blk_cell BK101.out 9).trans rfl, (blk_cell BK101.out 10).trans rfl⟩ (fun hHeld => ?_)
      generalize wc.drew = w61 at HO_142000 HO_142004 HO_142010 BK101 BK123 BK141 BK145 HB hHeld ⊢
      refine take_ (i := 0) (N := some 36) (v := ?_) (a' := ?_) #[true, false, false, false, false] rfl rfl (by kernel_rfl) (fun _ _ _ h => h) (Or.inl ⟨by rfl, ?_⟩) hHeld ?_ ?_
      rotate_left
      ·rintro w' ⟨s0, s1, s2, s3, s4, s5, s6, s7, s8, s9, s10, s11, s12, s13, s14, s15, s16, s17, s18, s19, s20, s21⟩
       go_simp
       with_reducible rfl
      rotate_left
      ·simp only [Act.put, List.setIfInBounds_toArray, List.set_cons_zero, List.set_cons_succ, i64_w, i32_w]
       rfl
      refine take_ (i := 1) (N := some 37) (v := ?_) (a' := ?_) #[true, true, false, false, false] rfl rfl (by kernel_rfl) (fun _ _ _ h => h) (Or.inl ⟨by rfl, ?_⟩) hHeld ?_ ?_
      rotate_left
      ·rintro w' ⟨s0, s1, s2, s3, s4, s5, s6, s7, s8, s9, s10, s11, s12, s13, s14, s15, s16, s17, s18, s19, s20, s21⟩
       go_simp
       with_reducible rfl
      rotate_left
      ·simp only [Act.put, List.setIfInBounds_toArray, List.set_cons_zero, List.set_cons_succ, i64_w, i32_w]
       rfl
      refine one_ (i := 2) (N := some 38) #[true, true, true, false, false] rfl rfl (by kernel_rfl) (by decide) (fun K hK => ?_)
      refine goes_ Try.func31 (by kernel_rfl) rfl #[.agg #[.slice A0_0 l0_0.length c0_0, .int .i64 a0_1, .string a0_2, .int .i64 a0_3, .slice A0_4 l0_4.length c0_4, .int .i64 a0_5, .bool a0_6, .int .i64 a0_7, .int .i64 a0_8, .int .i64 a0_9, .slice A0_10 l0_10.length c0_10]] (by rfl) rfl rfl (by (try simp only [List.map_toArray, List.map_cons, List.map_nil]); first | done | rfl | (simp only [List.length_drop, List.length_take]; rfl)) ?_
      with_reducible refine (laws_toMachine.calls kj10 _ _ l0_0 a0_1 a0_2 a0_3 _ _ l0_4 a0_5 a0_6 a0_7 a0_8 a0_9 _ _ l0_10 t147 t150 t151 t152 t153 t156 t157 t158 t159 t160 t161 _ ?side1 ?side2 ?side3 ?side4 ?side5 ?side6 A58.out).mono ?_
      (case side1 => repeat (first | exact (Kd.C_below HR0_0.out HB.out) | (with_reducible refine Kd.C_alloc ?_ _) | (with_reducible refine Kd.C_drewN ?_ _) | (with_reducible refine Kd.C_drew ?_)))
      (case side2 => exact HC0_0.out)
      (case side3 => repeat (first | exact (Kd.C_below HR0_4.out HB.out) | (with_reducible refine Kd.C_alloc ?_ _) | (with_reducible refine Kd.C_drewN ?_ _) | (with_reducible refine Kd.C_drew ?_)))
      (case side4 => exact HC0_4.out)
      (case side5 => repeat (first | exact (Kd.C_below HR0_10.out HB.out) | (with_reducible refine Kd.C_alloc ?_ _) | (with_reducible refine Kd.C_drewN ?_ _) | (with_reducible refine Kd.C_drew ?_)))
      (case side6 => exact HC0_10.out)
      rintro e w62 ⟨v148, v154, v162, rfl, ho0, ho1, ho2, hb⟩
      refine ⟨_, rfl, ?_⟩
      have n0_ := re HO_142000 (Kd.R_base ho0) hb; have n1_ := re HO_142004 (Kd.R_base ho1) hb; have n2_ := re HO_142010 (Kd.R_base ho2) hb
      have n3_ := Aside0.mk (Kd.R_lower (Kd.R_new' ho0 (Kd.R_lt (by (with_reducible repeat (first | apply Kd.R_alloc | apply Kd.R_drewN | apply Kd.R_drew)); exact HO_142000.out))) (below_size (by repeat (first | (with_reducible first | exact HB.out | apply below_alloc | apply pw_below_drewN | apply below_drew1 | refine below_set ?_ GE101.out | refine below_set ?_ GE123.out | refine below_set ?_ GE141.out | refine below_set ?_ GE145.out) | exact HB.out))))
      have n4_ := Aside0.mk (Kd.R_lower (Kd.R_new' ho1 (Kd.R_lt (by (with_reducible repeat (first | apply Kd.R_alloc | apply Kd.R_drewN | apply Kd.R_drew)); exact HO_142004.out))) (below_size (by repeat (first | (with_reducible first | exact HB.out | apply below_alloc | apply pw_below_drewN | apply below_drew1 | refine below_set ?_ GE101.out | refine below_set ?_ GE123.out | refine below_set ?_ GE141.out | refine below_set ?_ GE145.out) | exact HB.out))))
      have n5_ := Aside0.mk (Kd.R_lower (Kd.R_new' ho2 (Kd.R_lt (by (with_reducible repeat (first | apply Kd.R_alloc | apply Kd.R_drewN | apply Kd.R_drew)); exact HO_142010.out))) (below_size (by repeat (first | (with_reducible first | exact HB.out | apply below_alloc | apply pw_below_drewN | apply below_drew1 | refine below_set ?_ GE101.out | refine below_set ?_ GE123.out | refine below_set ?_ GE141.out | refine below_set ?_ GE145.out) | exact HB.out))))
      have n6_ := bb BK101 hb; have n7_ := bb BK123 hb; have n8_ := bb BK141 hb; have n9_ := bb BK145 hb; have n10_ := bs4 HB hb GE101 GE123 GE141 GE145; clear HO_142000; clear HO_142004; clear HO_142010; clear BK101; clear BK123; clear BK141; clear BK145; clear HB; have HO_142000 := n0_; have HO_142004 := n1_; have HO_142010 := n2_; have HO149 := n3_; have HO155 := n4_; have HO163 := n5_; have BK101 := n6_; have BK123 := n7_; have BK141 := n8_; have BK145 := n9_; have HB := n10_; clear n0_ n1_ n2_ n3_ n4_ n5_ n6_ n7_ n8_ n9_ n10_
      (try clear hb)
      (try clear hb2)
      (try clear hk)
      (try clear hi)
      (try clear ho0)
      (try clear ho1)
      (try clear ho2)
      obtain ⟨Ao63, co63, eo63⟩ := Kd.R_slice HO149.out
      (first | subst eo63 | (injection eo63 with f1_ f2_ f3_; have f4_ := f1_.symm; have f5_ := f3_.symm; clear f1_ f2_ f3_; subst f4_; subst f5_))
      obtain ⟨Ao64, co64, eo64⟩ := Kd.R_slice HO155.out
      (first | subst eo64 | (injection eo64 with f1_ f2_ f3_; have f4_ := f1_.symm; have f5_ := f3_.symm; clear f1_ f2_ f3_; subst f4_; subst f5_))
      obtain ⟨Ao65, co65, eo65⟩ := Kd.R_slice HO163.out
      (first | subst eo65 | (injection eo65 with f1_ f2_ f3_; have f4_ := f1_.symm; have f5_ := f3_.symm; clear f1_ f2_ f3_; subst f4_; subst f5_))
      refine hK.out _ _ ⟨(blk_cell BK141.out 0).trans rfl, (blk_cell BK141.out 1).trans rfl, (blk_cell BK141.out 2).trans rfl, (blk_cell BK141.out 3).trans rfl, (blk_cell BK141.out 4).trans rfl, (blk_cell BK141.out 5).trans rfl, (blk_cell BK141.out 6).trans rfl, (blk_cell BK141.out 7).trans rfl, (blk_cell BK141.out 8).trans rfl, (blk_cell BK141.out 9).trans rfl, (blk_cell BK141.out 10).trans rfl, (blk_cell BK101.out 0).trans rfl, (blk_cell BK101.out 1).trans rfl, (blk_cell BK101.out 2).trans rfl, (blk_cell BK101.out 3).trans rfl, (blk_cell BK101.out 4).trans rfl, (blk_cell BK101.out 5).trans rfl, (blk_cell BK101.out 6).trans rfl, (blk_cell BK101.out 7).trans rfl, (blk_cell BK101.out 8).trans rfl, (blk_cell BK101.out 9).trans rfl, (blk_cell BK101.out 10).trans rfl⟩ (fun hHeld => ?_)
      clear hK K
      refine norm_ (a' := ?_) ?_ ?_
      rotate_left
      ·show Act.put _ (some 38) _ = _
       simp only [Act.put, List.setIfInBounds_toArray, List.set_cons_zero, List.set_cons_succ, i64_w, i32_w]
       rfl
      refine one_ (i := 3) (N := some 39) #[true, true, true, true, false] rfl rfl (by kernel_rfl) (by decide) (fun K hK => ?_)
      refine goes_ Try.func25 (by kernel_rfl) rfl #[.agg #[.slice Ao27 t124.length co27, .int .i64 t127, .string t128, .int .i64 t129, .slice Ao31 t130.length co31, .int .i64 t133, .bool t134, .int .i64 t135, .int .i64 t136, .int .i64 t137, .slice Ao32 t138.length co32], .agg #[.slice Ao63 t147.length co63, .int .i64 t150, .string t151, .int .i64 t152, .slice Ao64 t153.length co64, .int .i64 t156, .bool t157, .int .i64 t158, .int .i64 t159, .int .i64 t160, .slice Ao65 t161.length co65]] (by rfl) rfl rfl (by (try simp only [List.map_toArray, List.map_cons, List.map_nil]); first | done | rfl | (simp only [List.length_drop, List.length_take]; rfl)) ?_
      with_reducible refine (laws_eqMachine.calls kj10 _ _ t124 t127 t128 t129 _ _ t130 t133 t134 t135 t136 t137 _ _ t138 _ _ t147 t150 t151 t152 _ _ t153 t156 t157 t158 t159 t160 _ _ t161 true _ ?side1 ?side2 ?side3 ?side4 ?side5 ?side6 ?side7 ?side8 ?side9 ?side10 ?side11 ?side12 A59.out).mono ?_
      (case side1 => repeat (first | exact (Kd.R_reads' HO_142000.out).2.2 | (with_reducible refine Kd.C_alloc ?_ _) | (with_reducible refine Kd.C_drewN ?_ _) | (with_reducible refine Kd.C_drew ?_)))
      (case side2 => exact (Kd.R_reads' HO_142000.out).2.1)
      (case side3 => repeat (first | exact (Kd.R_reads' HO_142004.out).2.2 | (with_reducible refine Kd.C_alloc ?_ _) | (with_reducible refine Kd.C_drewN ?_ _) | (with_reducible refine Kd.C_drew ?_)))
      (case side4 => exact (Kd.R_reads' HO_142004.out).2.1)
      (case side5 => repeat (first | exact (Kd.R_reads' HO_142010.out).2.2 | (with_reducible refine Kd.C_alloc ?_ _) | (with_reducible refine Kd.C_drewN ?_ _) | (with_reducible refine Kd.C_drew ?_)))
      (case side6 => exact (Kd.R_reads' HO_142010.out).2.1)
      (case side7 => repeat (first | exact (Kd.R_reads' HO149.out).2.2 | (with_reducible refine Kd.C_alloc ?_ _) | (with_reducible refine Kd.C_drewN ?_ _) | (with_reducible refine Kd.C_drew ?_)))
      (case side8 => exact (Kd.R_reads' HO149.out).2.1)
      (case side9 => repeat (first | exact (Kd.R_reads' HO155.out).2.2 | (with_reducible refine Kd.C_alloc ?_ _) | (with_reducible refine Kd.C_drewN ?_ _) | (with_reducible refine Kd.C_drew ?_)))
      (case side10 => exact (Kd.R_reads' HO155.out).2.1)
      (case side11 => repeat (first | exact (Kd.R_reads' HO163.out).2.2 | (with_reducible refine Kd.C_alloc ?_ _) | (with_reducible refine Kd.C_drewN ?_ _) | (with_reducible refine Kd.C_drew ?_)))
      (case side12 => exact (Kd.R_reads' HO163.out).2.1)
      rintro e w66 ⟨rfl, hb⟩
      refine ⟨_, rfl, ?_⟩
      have n0_ := rb HO_142000 hb; have n1_ := rb HO_142004 hb; have n2_ := rb HO_142010 hb; have n3_ := rb HO149 hb; have n4_ := rb HO155 hb; have n5_ := rb HO163 hb; have n6_ := bb BK101 hb; have n7_ := bb BK123 hb; have n8_ := bb BK141 hb; have n9_ := bb BK145 hb; have n10_ := bs4 HB hb GE101 GE123 GE141 GE145; clear HO_142000; clear HO_142004; clear HO_142010; clear HO149; clear HO155; clear HO163; clear BK101; clear BK123; clear BK141; clear BK145; clear HB; have HO_142000 := n0_; have HO_142004 := n1_; have HO_142010 := n2_; have HO149 := n3_; have HO155 := n4_; have HO163 := n5_; have BK101 := n6_; have BK123 := n7_; have BK141 := n8_; have BK145 := n9_; have HB := n10_; clear n0_ n1_ n2_ n3_ n4_ n5_ n6_ n7_ n8_ n9_ n10_
      (try clear hb)
      (try clear hb2)
      (try clear hk)
      (try clear hi)
      refine hK.out _ _ ⟨(blk_cell BK141.out 0).trans rfl, (blk_cell BK141.out 1).trans rfl, (blk_cell BK141.out 2).trans rfl, (blk_cell BK141.out 3).trans rfl, (blk_cell BK141.out 4).trans rfl, (blk_cell BK141.out 5).trans rfl, (blk_cell BK141.out 6).trans rfl, (blk_cell BK141.out 7).trans rfl, (blk_cell BK141.out 8).trans rfl, (blk_cell BK141.out 9).trans rfl, (blk_cell BK141.out 10).trans rfl, (blk_cell BK101.out 0).trans rfl, (blk_cell BK101.out 1).trans rfl, (blk_cell BK101.out 2).trans rfl, (blk_cell BK101.out 3).trans rfl, (blk_cell BK101.out 4).trans rfl, (blk_cell BK101.out 5).trans rfl, (blk_cell BK101.out 6).trans rfl, (blk_cell BK101.out 7).trans rfl, (blk_cell BK101.out 8).trans rfl, (blk_cell BK101.out 9).trans rfl, (blk_cell BK101.out 10).trans rfl⟩ (fun hHeld => ?_)
      clear hK K
      refine norm_ (a' := ?_) ?_ ?_
      rotate_left
      ·show Act.put _ (some 39) _ = _
       simp only [Act.put, List.setIfInBounds_toArray, List.set_cons_zero, List.set_cons_succ, i64_w, i32_w]
       rfl
      refine pure_ (i := 4) (N := some 40) (v := ?_) (a' := ?_) #[true, true, true, true, true] rfl rfl (by kernel_rfl) (fun _ _ _ h => h) (Or.inl ⟨by rfl, ?_⟩) ?_ ?_
      rotate_left
      ·intro w'
       go_simp
       with_reducible rfl
      rotate_left
      ·simp only [Act.put, List.setIfInBounds_toArray, List.set_cons_zero, List.set_cons_succ, i64_w, i32_w]
       rfl
      refine done_ (by kernel_rfl) ?_
      try go_wp2
      go_ret
      exact ⟨by first | rfl | (simp [errW_none, errW_some] <;> rfl) | (simp [*, errW_none, errW_some] <;> rfl), by repeat (first | (with_reducible first | exact HB.out | apply below_alloc | apply pw_below_drewN | apply below_drew1 | refine below_set ?_ GE101.out | refine below_set ?_ GE123.out | refine below_set ?_ GE141.out | refine below_set ?_ GE145.out) | exact HB.out)⟩
     ·replace c60 := Bool.eq_false_iff.mpr c60
      subst c60
      have H1 : (some false) = some r := by rw [if_neg (show ¬ (false = true) by decide)] at H; exact H
      clear H; have H := H1; clear H1
      exact absurd ((Option.some.inj H).trans HT.out) (by decide)

end Go.Proofs.Ytlpfmhikahlcoaa.G
/- Plain lemmas about rounds, whole numbers, lists and strings, for the pure statements of this seat. Conditions: each lemma's own hypotheses. -/
set_option linter.unusedSimpArgs false
set_option linter.unusedVariables false
namespace Go.Proofs.Ytlpfmhikahlcoaa.Pure
open Go.RowKit Go.Proofs.YtlpfmhikahlcoaaW.PrintWords Go.Proofs.YtlpfmhikahlcoaaW.PrintLast Go.Proofs.YtlpfmhikahlcoaaW.PrintMore

/-- A loop that goes n rounds from state 0 on and then tells r. -/
theorem rounds {R : Type} (L : Nat → Nat → Option R) (n : Nat) (r : R) (step : ∀ k i, i < n → L (k + 1) i = L k (i + 1)) (stop : ∀ k, L (k + 1) n = some r) : ∀ k, n < k → L k 0 = some r := by
  have h : ∀ d i k, i + d = n → d < k → L k i = some r := by
    intro d
    induction d with
    | zero =>
      intro i k hi hk
      obtain ⟨k, rfl⟩ : ∃ m, k = m + 1 := ⟨k - 1, by omega⟩
      obtain rfl : i = n := by omega
      exact stop k
    | succ d ih =>
      intro i k hi hk
      obtain ⟨k, rfl⟩ : ∃ m, k = m + 1 := ⟨k - 1, by omega⟩
      rw [step k i (by omega)]
      exact ih (i + 1) k (by omega) (by omega)
  exact fun k hk => h n 0 k (by omega) hk
/-- The same where each round, and the end, asks for m rounds more (calls inside). -/
theorem rounds_ {R : Type} (m : Nat) (L : Nat → Nat → Option R) (n : Nat) (r : R) (step : ∀ k i, m ≤ k → i < n → L (k + 1) i = L k (i + 1)) (stop : ∀ k, m ≤ k → L (k + 1) n = some r) : ∀ k, n + m < k → L k 0 = some r := by
  have h : ∀ d i k, i + d = n → d + m < k → L k i = some r := by
    intro d
    induction d with
    | zero =>
      intro i k hi hk
      obtain ⟨k, rfl⟩ : ∃ m, k = m + 1 := ⟨k - 1, by omega⟩
      obtain rfl : i = n := by omega
      exact stop k (by omega)
    | succ d ih =>
      intro i k hi hk
      obtain ⟨k, rfl⟩ : ∃ m, k = m + 1 := ⟨k - 1, by omega⟩
      rw [step k i (by omega) (by omega)]
      exact ih (i + 1) k (by omega) (by omega)
  exact fun k hk => h n 0 k (by omega) hk
/-- A loop that goes on while p holds: where it ends, and with how many rounds left. -/
theorem rounds_to {R : Type} (L : Nat → Nat → R) (n : Nat) (p : Nat → Bool) (S E : Nat → R) (step : ∀ k i, i < n → (∀ j, j < i → p j = true) → p i = true → L (k + 1) i = L k (i + 1))
    (exit : ∀ k i, i < n → (∀ j, j < i → p j = true) → p i = false → L (k + 1) i = E k) (stop : ∀ k, (∀ j, j < n → p j = true) → L (k + 1) n = S k) :
    ∀ k, n < k → ∃ j, k - n - 1 ≤ j ∧ j < k ∧ L k 0 = if (List.range n).all p then S j else E j := by
  have h : ∀ d i k, i + d = n → d < k → (∀ j, j < i → p j = true) → ∃ j, k - d - 1 ≤ j ∧ j < k ∧ L k i = if (List.range n).all p then S j else E j := by
    intro d
    induction d with
    | zero =>
      intro i k hi hk hp
      obtain ⟨k, rfl⟩ : ∃ m, k = m + 1 := ⟨k - 1, by omega⟩
      obtain rfl : i = n := by omega
      refine ⟨k, by omega, by omega, ?_⟩
      rw [stop k hp, if_pos (List.all_eq_true.2 fun x hx => hp x (by simpa using hx))]
    | succ d ih =>
      intro i k hi hk hp
      obtain ⟨k, rfl⟩ : ∃ m, k = m + 1 := ⟨k - 1, by omega⟩
      cases hpi : p i with
      | true =>
        obtain ⟨j, h1, h2, h3⟩ := ih (i + 1) k (by omega) (by omega) (fun j hj => by
          rcases Nat.eq_or_lt_of_le (Nat.lt_succ_iff.1 hj) with e | e
          · exact e ▸ hpi
          · exact hp j e)
        exact ⟨j, by omega, by omega, (step k i (by omega) hp hpi).trans h3⟩
      | false =>
        refine ⟨k, by omega, by omega, ?_⟩
        rw [exit k i (by omega) hp hpi, if_neg (fun ha => by have := List.all_eq_true.1 ha i (by simp; omega); rw [hpi] at this; cases this)]
  exact fun k hk => h n 0 k (by omega) hk (fun j hj => absurd hj (by omega))
/-- A search that ends with one of two answers. -/
theorem rounds_pre {R : Type} (L : Nat → Nat → Option R) (n : Nat) (p : Nat → Bool) (r bad : R) (step : ∀ k i, i < n → (∀ j, j < i → p j = true) → p i = true → L (k + 1) i = L k (i + 1))
    (exit : ∀ k i, i < n → (∀ j, j < i → p j = true) → p i = false → L (k + 1) i = some bad) (stop : ∀ k, (∀ j, j < n → p j = true) → L (k + 1) n = some r) :
    ∀ k, n < k → L k 0 = some (if (List.range n).all p then r else bad) := by
  intro k hk
  obtain ⟨j, _, _, h⟩ := rounds_to L n p (fun _ => some r) (fun _ => some bad) step exit stop k hk
  rw [h]
  split <;> rfl
theorem w64 {n : Int} (h0 : -9223372036854775808 ≤ n) (h1 : n ≤ 9223372036854775807) : wrap64 n = n := by
  unfold wrap64
  omega
theorem w64s (i : Nat) (h : i < 4611686018427387904) : wrap64 ((i : Int) + 1) = ((i + 1 : Nat) : Int) := by
  rw [w64 (by omega) (by omega)]
  omega
theorem wfi {a : Int} (h : (Lit.int .i64 a).wf = true) : -9223372036854775808 ≤ a ∧ a ≤ 9223372036854775807 := by
  have hmin : IntKind.i64.min = -9223372036854775808 := rfl
  have hmax : IntKind.i64.max = 9223372036854775807 := rfl
  simp only [Lit.wf, Bool.and_eq_true, decide_eq_true_eq] at h
  omega
theorem u64_of {a : Int} (h0 : 0 ≤ a) (h1 : a ≤ 18446744073709551615) : IntKind.u64.wrap a = a := by
  have h : IntKind.u64.wrap a = a % 18446744073709551616 := by
    simp [IntKind.wrap, IntKind.bits, IntKind.signed]
  rw [h]
  omega

/-! lists -/
theorem rd_nat (xs : List Int) (i : Nat) : rd xs (i : Int) = xs.getD i 0 := by unfold rd; simp
theorem rdOf_nat {α : Type} (d : α) (xs : List α) (i : Nat) : rdOf d xs (i : Int) = xs.getD i d := by unfold rdOf; simp
theorem getD_lt {α : Type} (xs : List α) (i : Nat) (d : α) (h : i < xs.length) : xs.getD i d = xs[i] := by
  rw [List.getD_eq_getElem?_getD, List.getElem?_eq_getElem h]
  rfl
theorem take_succ_getD {α : Type} (xs : List α) (i : Nat) (d : α) (h : i < xs.length) : xs.take (i + 1) = xs.take i ++ [xs.getD i d] := by
  rw [List.take_succ_eq_append_getElem h, getD_lt xs i d h]
/-- What is written from the front on. -/
theorem set_front {α : Type} (p l : List α) (i : Nat) (v : α) (hl : p.length = l.length) (h : i < l.length) (hv : p[i]? = some v) : (p.take i ++ l.drop i).set i v = p.take (i + 1) ++ l.drop (i + 1) := by
  apply List.ext_getElem?
  intro j
  by_cases hj : j = i
  · subst hj
    rw [List.getElem?_set_self (by simp; omega), List.getElem?_append_left (by simp; omega), List.getElem?_take_of_lt (by omega), hv]
  · rw [List.getElem?_set_ne (by omega)]
    rcases Nat.lt_or_ge j i with h1 | h1
    · rw [List.getElem?_append_left (by simp; omega), List.getElem?_append_left (by simp; omega), List.getElem?_take_of_lt (by omega), List.getElem?_take_of_lt (by omega)]
    · rw [List.getElem?_append_right (by simp; omega), List.getElem?_append_right (by simp; omega)]
      simp only [List.length_take, List.getElem?_drop]
      congr 1
      omega

/-! strings -/
theorem bt_nat (s : ByteArray) (i : Nat) (h : i < s.size) : bt s (i : Int) = (s[i].toNat : Int) := by
  unfold bt
  simp [h]
theorem toList_data (s : ByteArray) : s.toList = s.data.toList := ByteArray.toList_eq s
end Go.Proofs.Ytlpfmhikahlcoaa.Pure
/- What holds with enough rounds: small words for it. Conditions: each lemma's own hypotheses. -/
set_option linter.unusedSimpArgs false
set_option linter.unusedVariables false
namespace Go.Proofs.Ytlpfmhikahlcoaa.Pure
open Go.RowKit Go.Proofs.YtlpfmhikahlcoaaW.PrintWords Go.Proofs.YtlpfmhikahlcoaaW.PrintLast Go.Proofs.YtlpfmhikahlcoaaW.PrintMore

theorem ev_some {α : Type} (r : α) : Ev (fun _ => some r) r := ⟨0, fun _ _ => rfl⟩
theorem ev_ge {α : Type} {g : Nat → Option α} {r : α} (n : Nat) (h : ∀ k, n < k → g k = some r) : Ev g r := ⟨n + 1, fun k hk => h k (by omega)⟩
theorem ev_step {α : Type} {g f : Nat → Option α} {r : α} (h : ∀ k, g (k + 1) = f k) (e : Ev f r) : Ev g r := by
  obtain ⟨K, e⟩ := e
  refine ⟨K + 1, fun k hk => ?_⟩
  obtain ⟨m, rfl⟩ : ∃ m, k = m + 1 := ⟨k - 1, by omega⟩
  rw [h m]
  exact e m (by omega)
theorem ev_eq {α : Type} {g f : Nat → Option α} {r : α} (h : ∀ k, g k = f k) (e : Ev f r) : Ev g r := by
  obtain ⟨K, e⟩ := e
  exact ⟨K, fun k hk => (h k).trans (e k hk)⟩
theorem ev_bind {α β : Type} {g : Nat → Option α} {f : Nat → α → Option β} {a : α} {r : β} (h : Ev g a) (e : Ev (fun n => f n a) r) : Ev (fun n => (g n).bind (f n)) r := by
  obtain ⟨K, h⟩ := h
  obtain ⟨M, e⟩ := e
  refine ⟨K + M, fun n hn => ?_⟩
  show (g n).bind (f n) = some r
  rw [h n (by omega)]
  exact e n (by omega)
theorem ev_rounds {α : Type} {g : Nat → Option α} {r : α} (h : Ev g r) : ∃ k, g k = some r := by
  obtain ⟨K, h⟩ := h
  exact ⟨K, h K (Nat.le_refl _)⟩
/-- Two answers of one thing are the same. -/
theorem ev_one {α : Type} {g : Nat → Option α} {a b : α} (h : Ev g a) (e : Ev g b) : a = b := by
  obtain ⟨K, h⟩ := h
  obtain ⟨M, e⟩ := e
  exact Option.some.inj ((h (K + M) (by omega)).symm.trans (e (K + M) (by omega)))
/-- A loop that goes from i on to n, and then as its end tells. -/
theorem ev_loop {α : Type} (L : Nat → Nat → Option α) (n : Nat) (r : α) (step : ∀ i, i < n → Ev (fun k => L k (i + 1)) r → Ev (fun k => L k i) r) (stop : Ev (fun k => L k n) r) : ∀ i, i ≤ n → Ev (fun k => L k i) r := by
  have h : ∀ d i, i + d = n → Ev (fun k => L k i) r := by
    intro d
    induction d with
    | zero =>
      intro i hi
      obtain rfl : i = n := by omega
      exact stop
    | succ d ih => intro i hi; exact step i (by omega) (ih (i + 1) (by omega))
  exact fun i hi => h (n - i) i (by omega)
end Go.Proofs.Ytlpfmhikahlcoaa.Pure
/- What the statements' own helpers answer (copies, comparisons, marks), as plain equations. Conditions: each lemma's own hypotheses. -/
set_option linter.unusedSimpArgs false
set_option linter.unusedVariables false
namespace Go.Proofs.Ytlpfmhikahlcoaa.Pure
open Go.RowKit Go.Proofs.Ytlpfmhikahlcoaa.G Go.Proofs.YtlpfmhikahlcoaaW.PrintWords Go.Proofs.YtlpfmhikahlcoaaW.PrintLast Go.Proofs.YtlpfmhikahlcoaaW.PrintMore

theorem eqBoolS_self (l : List Bool) (hl : l.length ≤ 1099511627776) : ∀ k, l.length < k → laws_eqBoolS.f k l l = some true := by
  intro k hk
  unfold laws_eqBoolS.f
  rw [if_pos rfl]
  refine rounds (fun k i => laws_eqBoolS.l0 k l l (i : Int)) l.length true ?_ ?_ k hk
  · intro k i hi
    simp only [laws_eqBoolS.l0]
    rw [if_pos (by omega), if_pos (by omega), if_pos (by omega), if_neg (by simp), w64s i (by omega)]
  · intro k
    simp only [laws_eqBoolS.l0]
    rw [if_neg (by omega)]
theorem eqIntS_self (l : List Int) (hl : l.length ≤ 1099511627776) : ∀ k, l.length < k → laws_eqIntS.f k l l = some true := by
  intro k hk
  unfold laws_eqIntS.f
  rw [if_pos rfl]
  refine rounds (fun k i => laws_eqIntS.l0 k l l (i : Int)) l.length true ?_ ?_ k hk
  · intro k i hi
    simp only [laws_eqIntS.l0]
    rw [if_pos (by omega), if_pos (by omega), if_pos (by omega), if_pos (by simp), w64s i (by omega)]
  · intro k
    simp only [laws_eqIntS.l0]
    rw [if_neg (by omega)]
theorem toBoolS_eq (l : List Bool) (hl : l.length ≤ 1099511627776) : ∀ k, l.length < k → laws_toBoolS.f k l = some l := by
  intro k hk
  unfold laws_toBoolS.f
  rw [if_pos (by omega), if_pos (by omega), Int.toNat_natCast]
  have h := rounds (fun k i => laws_toBoolS.l0 k l (l.take i ++ (List.replicate l.length false).drop i) (i : Int)) l.length l ?_ ?_ k hk
  · simpa using h
  · intro k i hi
    simp only [laws_toBoolS.l0]
    rw [if_pos (by omega), if_pos (by omega), if_pos (by simp; omega), rdOf_nat, w64s i (by omega), Int.toNat_natCast, getD_lt l i false hi, set_front l (List.replicate l.length false) i l[i] (by simp) (by simpa using hi) (List.getElem?_eq_getElem hi)]
  · intro k
    simp only [laws_toBoolS.l0]
    rw [if_neg (by omega)]
    simp
theorem toIntS_eq (l : List Int) (hl : l.length ≤ 1099511627776) : ∀ k, l.length < k → laws_toIntS.f k l = some l := by
  intro k hk
  unfold laws_toIntS.f
  rw [if_pos (by omega), if_pos (by omega), Int.toNat_natCast]
  have h := rounds (fun k i => laws_toIntS.l0 k l (l.take i ++ (List.replicate l.length 0).drop i) (i : Int)) l.length l ?_ ?_ k hk
  · simpa using h
  · intro k i hi
    simp only [laws_toIntS.l0]
    rw [if_pos (by omega), if_pos (by omega), if_pos (by simp; omega), rd_nat, w64s i (by omega), Int.toNat_natCast, getD_lt l i 0 hi, set_front l (List.replicate l.length 0) i l[i] (by simp) (by simpa using hi) (List.getElem?_eq_getElem hi)]
  · intro k
    simp only [laws_toIntS.l0]
    rw [if_neg (by omega)]
    simp
theorem szTable_eq (N : Int) (s : ByteArray) (hs : s.size ≤ maxLen) : laws_szTable.f N s 1048576 = some (if (s.size : Int) > 1048576 then -1 else 1048576 - (s.size : Int)) := by
  unfold laws_szTable.f
  unfold maxLen at hs
  rw [w64 (by omega) (by omega)]
  split <;> split <;> first | rfl | omega
end Go.Proofs.Ytlpfmhikahlcoaa.Pure
/- Tables as lists of flags: what the program and the reference take for a right table. Conditions: each lemma's own hypotheses. -/
set_option linter.unusedSimpArgs false
set_option linter.unusedVariables false
namespace Go.Proofs.Ytlpfmhikahlcoaa.Pure
open Go.RowKit Go.Proofs.Ytlpfmhikahlcoaa.G Go.Proofs.YtlpfmhikahlcoaaW.PrintWords Go.Proofs.YtlpfmhikahlcoaaW.PrintLast Go.Proofs.YtlpfmhikahlcoaaW.PrintMore

/-- A search over rounds: it ends at the first round that fails. -/
theorem rounds_all {R : Type} (L : Nat → Nat → Option R) (n : Nat) (p : Nat → Bool) (r bad : R) (step : ∀ k i, i < n → p i = true → L (k + 1) i = L k (i + 1)) (exit : ∀ k i, i < n → p i = false → L (k + 1) i = some bad)
    (stop : ∀ k, L (k + 1) n = some r) : ∀ k, n < k → L k 0 = some (if (List.range n).all p then r else bad) :=
  rounds_pre L n p r bad (fun k i hi _ hp => step k i hi hp) (fun k i hi _ hp => exit k i hi hp) (fun k _ => stop k)

/-! ### tables -/
def sgn (b : Bool) : Int := if b then 49 else 48
def ones (l : List Bool) : ByteArray := ⟨(l.map fun b => if b then (49 : UInt8) else 48).toArray⟩
theorem ones_size (l : List Bool) : (ones l).size = l.length := by
  show (l.map fun b => if b then (49 : UInt8) else 48).toArray.size = _
  simp
theorem bt_ones (l : List Bool) (i : Nat) (h : i < l.length) : bt (ones l) (i : Int) = sgn (l.getD i false) := by
  have hs : i < (ones l).size := by rw [ones_size]; exact h
  rw [bt_nat _ i hs, getD_lt l i false h]
  have e : (ones l)[i] = if l[i] then (49 : UInt8) else 48 := by
    have h1 : (ones l).data.toList[i]? = some (ones l)[i] := by
      rw [List.getElem?_eq_getElem (by simpa using hs)]
      rfl
    have h2 : (ones l).data.toList[i]? = some (if l[i] then (49 : UInt8) else 48) := by simp [ones, h]
    exact Option.some.inj (h1.symm.trans h2)
  rw [e]
  unfold sgn
  cases l[i] <;> rfl
theorem ones_inj {a b : List Bool} (h : ones a = ones b) : a = b := by
  unfold ones at h
  injection h with h
  have h2 : (a.map fun b => if b then (49 : UInt8) else 48) = b.map fun b => if b then (49 : UInt8) else 48 := by simpa using congrArg Array.toList h
  exact List.map_inj_right (fun x y hxy => by revert hxy; cases x <;> cases y <;> decide) |>.1 h2
theorem data_inj {a b : ByteArray} (h : a.data.toList = b.data.toList) : a = b := by
  cases a; cases b
  simp only [ByteArray.mk.injEq]
  exact Array.toList_inj.1 h
theorem toList_inj {a b : ByteArray} : a.toList = b.toList ↔ a = b := by
  rw [toList_data, toList_data]
  exact ⟨data_inj, fun h => h ▸ rfl⟩
theorem strOfNums_ones (l : List Bool) : strOfNums (l.map sgn) = ones l := by
  unfold strOfNums ones
  congr 2
  rw [List.map_map]
  refine List.map_congr_left fun b _ => ?_
  cases b <;> rfl
def tok (N : Int) (s : ByteArray) : Bool := decide (0 ≤ N ∧ N ≤ 12 ∧ (s.size : Int) = 2 ^ N.toNat) && (List.range s.size).all fun (i : Nat) => bt s (i : Int) == 48 || bt s (i : Int) == 49
theorem tok_form {N : Int} {s : ByteArray} (h : tok N s = true) : ∃ (n : Nat) (l : List Bool), N = (n : Int) ∧ n ≤ 12 ∧ l.length = 2 ^ n ∧ s = ones l := by
  unfold tok at h
  simp only [Bool.and_eq_true, decide_eq_true_eq] at h
  obtain ⟨⟨h0, h1, h2⟩, h3⟩ := h
  obtain ⟨n, rfl⟩ := Int.eq_ofNat_of_zero_le h0
  have h2' : s.size = 2 ^ n := by
    rw [Int.toNat_natCast] at h2
    exact_mod_cast h2
  refine ⟨n, (List.range s.size).map fun (i : Nat) => decide (bt s (i : Int) = 49), rfl, by omega, by simp [h2'], ?_⟩
  apply data_inj
  apply List.ext_getElem?
  intro i
  rcases Nat.lt_or_ge i s.size with hi | hi
  · have hb := List.all_eq_true.1 h3 i (by simpa using hi)
    have e : s.data.toList[i]? = some s[i] := by
      rw [List.getElem?_eq_getElem (by simpa using hi)]
      rfl
    rw [e]
    have hv := bt_nat s i hi
    simp only [ones, List.map_map, List.getElem?_map, List.getElem?_range hi, Option.map_some, Function.comp]
    congr 1
    simp only [Bool.or_eq_true, beq_iff_eq] at hb
    have hd : ∀ c : UInt8, ((c.toNat : Int) = 48 → c = 48) ∧ ((c.toNat : Int) = 49 → c = 49) := fun c => ⟨fun h => UInt8.toNat_inj.1 (by have : c.toNat = 48 := by omega
                                                                                                                                         rw [this]; rfl), fun h => UInt8.toNat_inj.1 (by have : c.toNat = 49 := by omega
                                                                                                                                                                                         rw [this]; rfl)⟩
    rcases hb with hb | hb
    · have hc := (hd s[i]).1 (hv ▸ hb)
      simp [hb, hc]
    · have hc := (hd s[i]).2 (hv ▸ hb)
      simp [hb, hc]
  · rw [List.getElem?_eq_none (by simpa using hi), List.getElem?_eq_none (by simp [ones]; exact hi)]
theorem tok_ones {n : Nat} {l : List Bool} (hn : n ≤ 12) (hl : l.length = 2 ^ n) : tok (n : Int) (ones l) = true := by
  unfold tok
  rw [Bool.and_eq_true]
  refine ⟨decide_eq_true ⟨by omega, by omega, ?_⟩, List.all_eq_true.2 fun i hi => ?_⟩
  · rw [ones_size, hl, Int.toNat_natCast]
    norm_cast
  · have hi' : i < l.length := by rw [ones_size] at hi; simpa using hi
    rw [bt_ones l i hi']
    unfold sgn
    cases l.getD i false <;> rfl
theorem pow12 {n : Nat} (hn : n ≤ 12) : 2 ^ n ≤ 4096 := Nat.pow_le_pow_right (by decide) hn
theorem pow62 {n : Nat} (hn : n ≤ 61) : (2 : Int) ^ n ≤ 2305843009213693952 := by
  have h : 2 ^ n ≤ 2 ^ 61 := Nat.pow_le_pow_right (by decide) hn
  have h2 : ((2 ^ n : Nat) : Int) ≤ ((2 ^ 61 : Nat) : Int) := by exact_mod_cast h
  have h3 : ((2 ^ n : Nat) : Int) = (2 : Int) ^ n := by norm_cast
  omega
theorem pow_pos_ (n : Nat) : (1 : Int) ≤ 2 ^ n := by
  have h : 1 ≤ 2 ^ n := Nat.one_le_two_pow
  have h2 : ((1 : Nat) : Int) ≤ ((2 ^ n : Nat) : Int) := by exact_mod_cast h
  have h3 : ((2 ^ n : Nat) : Int) = (2 : Int) ^ n := by norm_cast
  omega
theorem pow2_eq (n : Nat) (hn : n ≤ 60) : ∀ k, n < k → spec_l01Pow2.f k (n : Int) = some ((2 : Int) ^ n) := by
  intro k hk
  unfold spec_l01Pow2.f
  refine rounds (fun k i => spec_l01Pow2.l0 k (n : Int) ((2 : Int) ^ i) (i : Int)) n _ ?_ ?_ k hk
  · intro k i hi
    simp only [spec_l01Pow2.l0]
    have h1 := pow62 (n := i + 1) (by omega)
    have h2 := pow_pos_ i
    rw [if_pos (by omega), w64s i (by omega), show (2 : Int) * 2 ^ i = 2 ^ (i + 1) from by rw [Int.pow_succ]; omega, w64 (by have := pow_pos_ (i + 1); omega) (by omega)]
  · intro k
    simp only [spec_l01Pow2.l0]
    rw [if_neg (by omega)]
theorem spec_TableOk_eq (N : Int) (s : ByteArray) (hs : s.size ≤ 1099511627776) : ∀ k, s.size + 20 < k → spec_TableOk.f k N s = some (tok N s) := by
  intro k hk
  obtain ⟨k, rfl⟩ : ∃ m, k = m + 1 := ⟨k - 1, by omega⟩
  unfold spec_TableOk.f spec_l01In.f
  by_cases h0 : N ≥ 0
  · rw [if_pos h0]
    by_cases h1 : N ≤ 12
    · obtain ⟨n, rfl⟩ := Int.eq_ofNat_of_zero_le h0
      simp only [h1, decide_true, Option.bind_some, if_true]
      rw [pow2_eq n (by omega) (k + 1) (by omega)]
      simp only [Option.bind_some, spec_TableOk.j0]
      by_cases h2 : (s.size : Int) = 2 ^ n
      · rw [if_neg (by simp [h2])]
        have h := rounds_all (fun k i => spec_TableOk.l0 k (i : Int) (n : Int) s) s.size (fun i => bt s i == 48 || bt s i == 49) true false ?_ ?_ ?_ k (by omega)
        · refine h.trans ?_
          unfold tok
          rw [decide_eq_true (⟨h0, h1, by rw [Int.toNat_natCast]; exact h2⟩ : 0 ≤ (n : Int) ∧ (n : Int) ≤ 12 ∧ (s.size : Int) = 2 ^ (n : Int).toNat), Bool.true_and]
          congr 1
          split <;> simp_all
        · intro k i hi hp
          simp only [spec_TableOk.l0]
          simp only [Bool.or_eq_true, beq_iff_eq] at hp
          rw [if_pos (by omega), if_pos (by omega), w64s i (by omega)]
          rcases hp with hp | hp
          · rw [if_pos hp]
          · rw [if_neg (by omega), if_pos hp]
        · intro k i hi hp
          simp only [spec_TableOk.l0]
          simp only [Bool.or_eq_false_iff, beq_eq_false_iff_ne] at hp
          rw [if_pos (by omega), if_pos (by omega), if_neg hp.1, if_neg hp.2]
        · intro k
          simp only [spec_TableOk.l0]
          rw [if_neg (by omega)]
      · rw [if_pos (by simpa using h2)]
        unfold tok
        rw [decide_eq_false (by rintro ⟨_, _, h⟩; rw [Int.toNat_natCast] at h; exact h2 h), Bool.false_and]
    · simp only [h1, decide_false, Option.bind_some]
      simp only [Bool.false_eq_true, if_false, spec_TableOk.j0, if_true]
      unfold tok
      rw [decide_eq_false (by omega), Bool.false_and]
  · rw [if_neg h0]
    simp only [Option.bind_some, Bool.false_eq_true, if_false, spec_TableOk.j0, if_true]
    unfold tok
    rw [decide_eq_false (by omega), Bool.false_and]
theorem shl_eq (n : Nat) (hn : n ≤ 60) : shl .i64 1 (n : Int) = (2 : Int) ^ n := by
  unfold shl
  rw [Int.toNat_natCast, show min n IntKind.i64.bits = n from by simp [IntKind.bits]; omega, Int.one_mul, IntKind.wrap_i64]
  have h1 := pow62 (n := n) (by omega)
  have h2 := pow_pos_ n
  omega
theorem impl_TableOk_eq (N : Int) (s : ByteArray) (hs : s.size ≤ 1099511627776) : ∀ k, s.size + 20 < k → impl_TableOk.f k N s = some (tok N s) := by
  intro k hk
  obtain ⟨k, rfl⟩ : ∃ m, k = m + 1 := ⟨k - 1, by omega⟩
  unfold impl_TableOk.f impl_within.f
  by_cases h0 : N ≥ 0
  · rw [if_pos h0]
    by_cases h1 : N ≤ 12
    · obtain ⟨n, rfl⟩ := Int.eq_ofNat_of_zero_le h0
      simp only [h1, decide_true, Option.bind_some, if_true]
      rw [u64_of (by omega) (by omega), if_pos (by omega), shl_eq n (by omega)]
      simp only [impl_TableOk.j0]
      by_cases h2 : (s.size : Int) = 2 ^ n
      · rw [if_neg (by simp [h2])]
        have h := rounds_all (fun k i => impl_TableOk.l0 k (s.size : Int) (i : Int) (n : Int) s) s.size (fun i => bt s i == 48 || bt s i == 49) true false ?_ ?_ ?_ k (by omega)
        · refine h.trans ?_
          unfold tok
          rw [decide_eq_true (⟨h0, h1, by rw [Int.toNat_natCast]; exact h2⟩ : 0 ≤ (n : Int) ∧ (n : Int) ≤ 12 ∧ (s.size : Int) = 2 ^ (n : Int).toNat), Bool.true_and]
          congr 1
          split <;> simp_all
        · intro k i hi hp
          simp only [impl_TableOk.l0]
          simp only [Bool.or_eq_true, beq_iff_eq] at hp
          rw [if_pos (by omega), if_pos (by omega), if_pos (by omega), w64s i (by omega)]
          rcases hp with hp | hp
          · rw [if_pos hp]
          · rw [if_neg (by omega), if_pos hp]
        · intro k i hi hp
          simp only [impl_TableOk.l0]
          simp only [Bool.or_eq_false_iff, beq_eq_false_iff_ne] at hp
          rw [if_pos (by omega), if_pos (by omega), if_pos (by omega), if_neg hp.1, if_neg hp.2]
        · intro k
          simp only [impl_TableOk.l0]
          rw [if_neg (by omega)]
      · rw [if_pos (by simpa using h2)]
        unfold tok
        rw [decide_eq_false (by rintro ⟨_, _, h⟩; rw [Int.toNat_natCast] at h; exact h2 h), Bool.false_and]
    · simp only [h1, decide_false, Option.bind_some]
      simp only [Bool.false_eq_true, if_false, impl_TableOk.j0, if_true]
      unfold tok
      rw [decide_eq_false (by omega), Bool.false_and]
  · rw [if_neg h0]
    simp only [Option.bind_some, Bool.false_eq_true, if_false, impl_TableOk.j0, if_true]
    unfold tok
    rw [decide_eq_false (by omega), Bool.false_and]
end Go.Proofs.Ytlpfmhikahlcoaa.Pure
/- The place that bits tell, and the value of a table there. Conditions: each lemma's own hypotheses. -/
set_option linter.unusedSimpArgs false
set_option linter.unusedVariables false
namespace Go.Proofs.Ytlpfmhikahlcoaa.Pure
open Go.RowKit Go.Proofs.Ytlpfmhikahlcoaa.G Go.Proofs.YtlpfmhikahlcoaaW.PrintWords Go.Proofs.YtlpfmhikahlcoaaW.PrintLast Go.Proofs.YtlpfmhikahlcoaaW.PrintMore

/-- The place that bits tell. -/
def plc (l : List Int) : Int := l.foldl (fun a b => 2 * a + b) 0
def isBit (b : Int) : Bool := b == 0 || b == 1
theorem plc_snoc (l : List Int) (b : Int) : plc (l ++ [b]) = 2 * plc l + b := by simp [plc, List.foldl_append]
theorem plc_bd (l : List Int) (i : Nat) (hi : i ≤ l.length) (h : ∀ j, j < i → isBit (l.getD j 0) = true) : 0 ≤ plc (l.take i) ∧ plc (l.take i) < 2 ^ i := by
  induction i with
  | zero => simp [plc]
  | succ i ih =>
    obtain ⟨h0, h1⟩ := ih (by omega) (fun j hj => h j (by omega))
    have hb := h i (by omega)
    simp only [isBit, Bool.or_eq_true, beq_iff_eq] at hb
    rw [take_succ_getD l i 0 (by omega), plc_snoc, Int.pow_succ]
    omega
theorem all_getD (l : List Int) (p : Int → Bool) : (List.range l.length).all (fun i => p (l.getD i 0)) = l.all p := by
  rw [Bool.eq_iff_iff, List.all_eq_true, List.all_eq_true]
  constructor
  · intro h x hx
    obtain ⟨i, hi, rfl⟩ := List.getElem_of_mem hx
    have := h i (by simpa using hi)
    rwa [getD_lt l i 0 hi] at this
  · intro h i hi
    have hi' : i < l.length := by simpa using hi
    rw [getD_lt l i 0 hi']
    exact h _ (List.getElem_mem hi')
theorem placeOfBits_eq (l : List Int) (hl : l.length ≤ 60) : ∀ k, l.length < k → impl_placeOfBits.f k l = some (if l.all isBit then (plc l, true) else (0, false)) := by
  intro k hk
  unfold impl_placeOfBits.f
  rw [← all_getD l isBit]
  have h := rounds_pre (fun k i => impl_placeOfBits.l0 k (plc (l.take i)) l (l.length : Int) (i : Int)) l.length (fun i => isBit (l.getD i 0)) (plc l, true) (0, false) ?_ ?_ ?_ k hk
  · simpa [plc] using h
  · intro k i hi hp hb
    simp only [isBit, Bool.or_eq_true, beq_iff_eq] at hb
    obtain ⟨h0, h1⟩ := plc_bd l i (by omega) hp
    have hw := pow62 (n := i) (by omega)
    simp only [impl_placeOfBits.l0]
    rw [if_pos (by omega), if_pos (by omega), if_pos (by omega), rd_nat, w64s i (by omega), take_succ_getD l i 0 hi, plc_snoc, w64 (n := 2 * plc (l.take i)) (by omega) (by omega), w64 (by omega) (by omega)]
    rcases hb with hb | hb
    · rw [if_pos hb]
    · rw [if_neg (by omega), if_pos hb]
  · intro k i hi hp hb
    simp only [isBit, Bool.or_eq_false_iff, beq_eq_false_iff_ne] at hb
    simp only [impl_placeOfBits.l0]
    rw [if_pos (by omega), if_pos (by omega), if_pos (by omega), rd_nat, if_neg hb.1, if_neg hb.2]
  · intro k hp
    simp only [impl_placeOfBits.l0]
    rw [if_neg (by omega), List.take_length]
/-- More places than fit are no matter where one of the first is no bit; else the number wraps: nobody asks then. -/
theorem placeOfBits_any (l : List Int) (hl : l.length ≤ 1099511627776) : ∃ x, ∀ k, l.length < k → impl_placeOfBits.f k l = some (if l.all isBit then (x, true) else (0, false)) := by
  refine ⟨l.foldl (fun a b => wrap64 (wrap64 (2 * a) + b)) 0, fun k hk => ?_⟩
  unfold impl_placeOfBits.f
  rw [← all_getD l isBit]
  have h := rounds_pre (fun k i => impl_placeOfBits.l0 k ((l.take i).foldl (fun a b => wrap64 (wrap64 (2 * a) + b)) 0) l (l.length : Int) (i : Int)) l.length (fun i => isBit (l.getD i 0)) (l.foldl (fun a b => wrap64 (wrap64 (2 * a) + b)) 0, true) (0, false) ?_ ?_ ?_ k hk
  · simpa using h
  · intro k i hi hp hb
    simp only [isBit, Bool.or_eq_true, beq_iff_eq] at hb
    simp only [impl_placeOfBits.l0]
    rw [if_pos (by omega), if_pos (by omega), if_pos (by omega), rd_nat, w64s i (by omega), take_succ_getD l i 0 hi, List.foldl_append]
    rcases hb with hb | hb
    · rw [if_pos hb]; rfl
    · rw [if_neg (by omega), if_pos hb]; rfl
  · intro k i hi hp hb
    simp only [isBit, Bool.or_eq_false_iff, beq_eq_false_iff_ne] at hb
    simp only [impl_placeOfBits.l0]
    rw [if_pos (by omega), if_pos (by omega), if_pos (by omega), rd_nat, if_neg hb.1, if_neg hb.2]
  · intro k hp
    simp only [impl_placeOfBits.l0]
    rw [if_neg (by omega), List.take_length]
/-- The value of a table at bits; -1 where they are none. -/
def valAt (N : Int) (s : ByteArray) (l : List Int) : Int := if tok N s ∧ (l.length : Int) = N ∧ l.all isBit then bt s (plc l) - 48 else -1
theorem bt_digit {n : Nat} {l : List Bool} {x : Int} (h0 : 0 ≤ x) (h1 : x < l.length) : bt (ones l) x = 48 ∨ bt (ones l) x = 49 := by
  obtain ⟨i, rfl⟩ := Int.eq_ofNat_of_zero_le h0
  rw [bt_ones l i (by omega)]
  unfold sgn
  split <;> simp
end Go.Proofs.Ytlpfmhikahlcoaa.Pure
/- Machines: copies, comparisons, sizes, and which are right. Conditions: each lemma's own hypotheses. -/
set_option linter.unusedSimpArgs false
set_option linter.unusedVariables false
namespace Go.Proofs.Ytlpfmhikahlcoaa.Pure
open Go.RowKit Go.Proofs.Ytlpfmhikahlcoaa.G Go.Proofs.YtlpfmhikahlcoaaW.PrintWords Go.Proofs.YtlpfmhikahlcoaaW.PrintLast Go.Proofs.YtlpfmhikahlcoaaW.PrintMore

/-- A statement's own memo as the program's. -/
def cvS (l : List S130) : List S86 := l.map fun x => ⟨x.f0, x.f1⟩
theorem cvS_length (l : List S130) : (cvS l).length = l.length := by simp [cvS]
theorem rdS_nat (L : List S86) (i : Nat) : rd_T86 L (i : Int) = L.getD i z86 := by unfold rd_T86; simp
theorem rdSL_nat (L : List S130) (i : Nat) : rd_T130 L (i : Int) = L.getD i z130 := by unfold rd_T130; simp
theorem toSeenS_eq (l : List S130) (hl : l.length ≤ 1099511627776) : ∀ k, l.length < k → laws_toSeenS.f k l = some (cvS l) := by
  intro k hk
  unfold laws_toSeenS.f
  rw [if_pos (by omega), if_pos (by omega), Int.toNat_natCast]
  have h := rounds (fun k i => laws_toSeenS.l0 k l ((cvS l).take i ++ (List.replicate l.length z86).drop i) (i : Int)) l.length (cvS l) ?_ ?_ k hk
  · simpa using h
  · intro k i hi
    simp only [laws_toSeenS.l0, laws_toSeen.f]
    rw [if_pos (by omega), if_pos (by omega), Option.bind_some, if_pos (by simp [cvS]; omega), rdSL_nat, w64s i (by omega), Int.toNat_natCast, getD_lt l i _ hi, set_front (cvS l) (List.replicate l.length z86) i _ (by simp [cvS]) (by simpa using hi) (by simp [cvS, hi])]
  · intro k
    simp only [laws_toSeenS.l0]
    rw [if_neg (by omega), List.take_of_length_le (by simp [cvS])]
    simp
theorem toMachine_ev (r : List Bool) (N : Int) (s : ByteArray) (rm : Int) (v : List Int) (rt : Int) (o : Bool) (a b c : Int) (m : List S130) (hr : r.length ≤ 1099511627776) (hv : v.length ≤ 1099511627776) (hm : m.length ≤ 1099511627776) :
    Ev (fun k => laws_toMachine.f k r N s rm v rt o a b c m) (r, N, s, rm, v, rt, o, a, b, c, cvS m) := by
  refine ev_ge (r.length + v.length + m.length) fun k hk => ?_
  unfold laws_toMachine.f laws_toTable.f
  rw [toBoolS_eq r hr k (by omega), Option.bind_some, Option.bind_some, toIntS_eq v hv k (by omega), Option.bind_some, toSeenS_eq m hm k (by omega), Option.bind_some]
theorem eqSeenS_self (l : List S86) (hl : l.length ≤ 1099511627776) : ∀ k, l.length < k → laws_eqSeenS.f k l l = some true := by
  intro k hk
  unfold laws_eqSeenS.f
  rw [if_pos rfl]
  refine rounds (fun k i => laws_eqSeenS.l0 k l l (i : Int)) l.length true ?_ ?_ k hk
  · intro k i hi
    simp only [laws_eqSeenS.l0, laws_eqSeen.f, if_true, Option.bind_some]
    rw [if_pos (by omega), if_pos (by omega), if_pos (by omega), w64s i (by omega)]
  · intro k
    simp only [laws_eqSeenS.l0]
    rw [if_neg (by omega)]
theorem eqTable_same (N : Int) (s : ByteArray) : laws_eqTable.f N s N s = some true := by unfold laws_eqTable.f; rw [if_pos rfl, if_pos rfl]
theorem eqMachine_ev (r : List Bool) (N : Int) (s : ByteArray) (rm : Int) (v : List Int) (rt : Int) (o : Bool) (a b c : Int) (m : List S86) (hr : r.length ≤ 1099511627776) (hv : v.length ≤ 1099511627776) (hm : m.length ≤ 1099511627776) :
    Ev (fun k => laws_eqMachine.f k r N s rm v rt o a b c m r N s rm v rt o a b c m) true := by
  refine ev_ge (r.length + v.length + m.length) fun k hk => ?_
  unfold laws_eqMachine.f
  rw [eqBoolS_self r hr k (by omega), Option.bind_some, if_pos rfl, eqTable_same, Option.bind_some, if_pos rfl, if_pos rfl, eqIntS_self v hv k (by omega), Option.bind_some, if_pos rfl, if_pos rfl, bne_self_eq_false, if_neg (by decide), if_pos rfl, if_pos rfl, if_pos rfl, eqSeenS_self m hm k (by omega), Option.bind_some, if_pos rfl]
/-- What is too large is left aside; what is not is told by a number that is not less than 0. -/
theorem szSeenS_ev (m : List S130) (x : Int) (hm : m.length ≤ maxLen) (hs : ∀ y ∈ m, y.f0.size ≤ maxLen) (h0 : 0 ≤ x) (h1 : x ≤ 1048576) :
    ∃ y, Ev (fun k => laws_szSeenS.f k m x) y ∧ (0 ≤ y → (m.length : Int) ≤ x ∧ y ≤ 1048576) := by
  unfold maxLen at hm hs
  by_cases hl : (m.length : Int) ≤ x
  · have h : ∀ d i, i + d = m.length → ∀ z : Int, 0 ≤ z → z ≤ 1048576 → ∃ y, Ev (fun k => laws_szSeenS.l0 k m z (i : Int)) y ∧ (0 ≤ y → y ≤ 1048576) := by
      intro d
      induction d with
      | zero =>
        intro i hi z hz0 hz1
        refine ⟨z, ev_step (f := fun _ => some z) (fun k => ?_) (ev_some _), fun _ => hz1⟩
        simp only [laws_szSeenS.l0]
        rw [if_neg (by omega)]
      | succ d ih =>
        intro i hi z hz0 hz1
        have hmem : rd_T130 m (i : Int) ∈ m := by rw [rdSL_nat, getD_lt m i _ (by omega)]; exact List.getElem_mem _
        have hsz := hs _ hmem
        have hw : wrap64 (z - ((rd_T130 m (i : Int)).f0.size : Int)) = z - (rd_T130 m (i : Int)).f0.size := w64 (by omega) (by omega)
        by_cases hb : z - ((rd_T130 m (i : Int)).f0.size : Int) < 0
        · refine ⟨-1, ev_step (f := fun _ => some (-1)) (fun k => ?_) (ev_some _), fun h => absurd h (by decide)⟩
          simp only [laws_szSeenS.l0, laws_szSeen.f]
          rw [if_pos (by omega), if_pos (by omega), hw, if_pos hb, Option.bind_some, if_pos (by decide)]
        · obtain ⟨y, hy, h2⟩ := ih (i + 1) (by omega) (z - (rd_T130 m (i : Int)).f0.size) (by omega) (by omega)
          refine ⟨y, ev_step (fun k => ?_) hy, h2⟩
          simp only [laws_szSeenS.l0, laws_szSeen.f]
          rw [if_pos (by omega), if_pos (by omega), hw, if_neg hb, Option.bind_some, if_neg hb, w64s i (by omega)]
    obtain ⟨y, hy, h2⟩ := h m.length 0 (by omega) (x - m.length) (by omega) (by omega)
    refine ⟨y, ev_eq (fun k => ?_) hy, fun h => ⟨hl, h2 h⟩⟩
    unfold laws_szSeenS.f
    rw [w64 (by omega) (by omega), if_neg (by omega)]
    rfl
  · refine ⟨-1, ev_eq (f := fun _ => some (-1)) (fun k => ?_) (ev_some _), fun h => absurd h (by decide)⟩
    unfold laws_szSeenS.f
    rw [w64 (by omega) (by omega), if_pos (by omega)]
theorem szMachine_ev (r : List Bool) (N : Int) (s : ByteArray) (rm : Int) (v : List Int) (rt : Int) (o : Bool) (a b c : Int) (m : List S130) (hr : r.length ≤ maxLen) (hs : s.size ≤ maxLen) (hv : v.length ≤ maxLen) (hm : m.length ≤ maxLen) (hk : ∀ y ∈ m, y.f0.size ≤ maxLen) :
    ∃ y, Ev (fun k => laws_szMachine.f k r N s rm v rt o a b c m 1048576) y ∧ (0 ≤ y → r.length ≤ 1048576 ∧ s.size ≤ 1048576 ∧ v.length ≤ 1048576 ∧ m.length ≤ 1048576) := by
  unfold maxLen at hr hs hv
  unfold laws_szMachine.f laws_szBoolS.f laws_szTable.f laws_szIntS.f
  have hw1 : wrap64 (1048576 - (r.length : Int)) = 1048576 - r.length := w64 (by omega) (by omega)
  simp only [hw1]
  by_cases h1 : 1048576 - (r.length : Int) < 0
  · exact ⟨-1, ev_eq (f := fun _ => some (-1)) (fun k => by rw [if_pos h1, Option.bind_some, if_pos (by decide)]) (ev_some _), fun h => absurd h (by decide)⟩
  simp only [if_neg h1, Option.bind_some]
  have hw2 : wrap64 (1048576 - (r.length : Int) - s.size) = 1048576 - r.length - s.size := w64 (by omega) (by omega)
  simp only [hw2]
  by_cases h2 : 1048576 - (r.length : Int) - s.size < 0
  · exact ⟨-1, ev_eq (f := fun _ => some (-1)) (fun k => by rw [if_pos h2, Option.bind_some, if_pos (by decide)]) (ev_some _), fun h => absurd h (by decide)⟩
  simp only [if_neg h2, Option.bind_some]
  have hw3 : wrap64 (1048576 - (r.length : Int) - s.size - v.length) = 1048576 - r.length - s.size - v.length := w64 (by omega) (by omega)
  simp only [hw3]
  by_cases h3 : 1048576 - (r.length : Int) - s.size - v.length < 0
  · exact ⟨-1, ev_eq (f := fun _ => some (-1)) (fun k => by rw [if_pos h3, Option.bind_some, if_pos (by decide)]) (ev_some _), fun h => absurd h (by decide)⟩
  simp only [if_neg h3, Option.bind_some]
  obtain ⟨y, hy, h4⟩ := szSeenS_ev m (1048576 - (r.length : Int) - s.size - v.length) hm hk (by omega) (by omega)
  by_cases h5 : y < 0
  · refine ⟨-1, ev_bind hy ?_, fun h => absurd h (by decide)⟩
    simp only [if_pos h5]
    exact ev_some _
  · refine ⟨y, ev_bind hy ?_, fun _ => ?_⟩
    · simp only [if_neg h5]
      exact ev_some _
    · have := (h4 (by omega)).1
      omega
/-! ### which are right -/
theorem in01 (x a b : Int) : spec_l01In.f x a b = some (decide (a ≤ x ∧ x ≤ b)) := by
  unfold spec_l01In.f
  by_cases h : x ≥ a
  · rw [if_pos h]; simp [h]
  · rw [if_neg h]; simp [h]
def mOkB (r : List Bool) (N : Int) (s : ByteArray) (rm : Int) (v : List Int) (rt : Int) (o : Bool) (a b c : Int) (m : List S86) : Bool :=
  (tok N s && ((r.length : Int) == N)) && okFront rm m.length v.length N && v.all isBit && okRet rt o v.length && decide (okMemo m) && okCounts a b c
theorem impl_MachineOk_ev (r : List Bool) (N : Int) (s : ByteArray) (rm : Int) (v : List Int) (rt : Int) (o : Bool) (a b c : Int) (m : List S86) (hs : s.size ≤ 1099511627776) (hv : v.length ≤ 1099511627776) (hm : ∀ y ∈ m, y.f0.size ≤ maxLen) :
    Ev (fun k => impl_MachineOk.f k r N s rm v rt o a b c m) (mOkB r N s rm v rt o a b c m) := by
  obtain ⟨x, hx⟩ := placeOfBits_any v hv
  refine ev_ge (s.size + v.length + 20) fun k hk => ?_
  unfold impl_MachineOk.f impl_rowed.f mOkB
  rw [if_pos hm, impl_TableOk_eq N s hs k (by omega), Option.bind_some, hx k (by omega)]
  cases tok N s <;> cases ((r.length : Int) == N) <;> cases v.all isBit <;> simp
theorem mem_take_key (L : List S86) (i : Nat) (hi : i ≤ L.length) (x : ByteArray) : x ∈ ((L.take i).map fun s => s.f0) ↔ ∃ j, j < i ∧ (rd_T86 L (j : Int)).f0 = x := by
  rw [List.mem_map]
  constructor
  · rintro ⟨y, hy, rfl⟩
    rw [List.mem_iff_getElem] at hy
    obtain ⟨j, hj, rfl⟩ := hy
    have hj' : j < i := by simp at hj; omega
    exact ⟨j, hj', by rw [rdS_nat, getD_lt L j _ (by omega)]; simp⟩
  · rintro ⟨j, hj, rfl⟩
    exact ⟨rd_T86 L (j : Int), List.mem_iff_getElem.2 ⟨j, by simp; omega, by rw [rdS_nat, getD_lt L j _ (by omega)]; simp⟩, rfl⟩
section
variable (r : List Bool) (N : Int) (s : ByteArray) (rm : Int) (v : List Int) (rt : Int) (o : Bool) (a b c : Int) (m : List S86)
theorem spec_mok_l2 (hl : m.length ≤ 1099511627776) (i : Nat) (hi : i < m.length) (q : Bool) (bad : (rd_T86 m (i : Int)).f0 ∈ ((m.take i).map fun s => s.f0) → q = false)
    (go : (rd_T86 m (i : Int)).f0 ∉ ((m.take i).map fun s => s.f0) → Ev (fun k => spec_MachineOk.l1 k ((i + 1 : Nat) : Int) r N s rm v rt o a b c m) q) : Ev (fun k => spec_MachineOk.l2 k (i : Int) 0 r N s rm v rt o a b c m) q := by
  have h : ∀ d j, j + d = i → (∀ q, q < j → (rd_T86 m (q : Int)).f0 ≠ (rd_T86 m (i : Int)).f0) → Ev (fun k => spec_MachineOk.l2 k (i : Int) (j : Int) r N s rm v rt o a b c m) q := by
    intro d
    induction d with
    | zero =>
      intro j hj hq
      obtain rfl : j = i := by omega
      refine ev_step (fun k => ?_) (go (fun hm => ?_))
      · simp only [spec_MachineOk.l2]
        rw [if_neg (by omega), w64s j (by omega)]
      · obtain ⟨q, h1, h2⟩ := (mem_take_key m j (by omega) _).1 hm
        exact hq q h1 h2
    | succ d ih =>
      intro j hj hq
      by_cases he : (rd_T86 m (j : Int)).f0 = (rd_T86 m (i : Int)).f0
      · rw [bad ((mem_take_key m i (by omega) _).2 ⟨j, by omega, he⟩)]
        refine ev_step (f := fun k => some false) (fun k => ?_) (ev_some _)
        simp only [spec_MachineOk.l2]
        rw [if_pos (by omega), if_pos (by omega), if_pos (by omega), if_pos (by omega), if_pos (by omega), if_pos (by rw [he])]
      · refine ev_step (fun k => ?_) (ih (j + 1) (by omega) (fun q hq' => ?_))
        · simp only [spec_MachineOk.l2]
          rw [if_pos (by omega), if_pos (by omega), if_pos (by omega), if_pos (by omega), if_pos (by omega), if_neg (fun hh => he (toList_inj.1 hh)), w64s j (by omega)]
        · rcases Nat.lt_succ_iff_lt_or_eq.1 hq' with h1 | rfl
          · exact hq q h1
          · exact he
  exact h i 0 (by omega) (fun q hq => by omega)
theorem spec_mok_l1 (hl : m.length ≤ 1099511627776) : Ev (fun k => spec_MachineOk.l1 k 0 r N s rm v rt o a b c m) (decide (okMemo m)) := by
  have h : ∀ d i, i + d = m.length → (∀ j, j < i → okSeen m j) → Ev (fun k => spec_MachineOk.l1 k (i : Int) r N s rm v rt o a b c m) (decide (okMemo m)) := by
    intro d
    induction d with
    | zero =>
      intro i hi hall
      rw [decide_eq_true (show okMemo m from fun j hj => hall j (by omega))]
      refine ev_step (f := fun _ => some true) (fun k => ?_) (ev_some _)
      simp only [spec_MachineOk.l1]
      rw [if_neg (by omega)]
    | succ d ih =>
      intro i hi hall
      have hlt : i < m.length := by omega
      by_cases c0 : (rd_T86 m (i : Int)).f1 = 0 ∨ (rd_T86 m (i : Int)).f1 = 1
      · refine ev_step (f := fun k => spec_MachineOk.l2 k (i : Int) 0 r N s rm v rt o a b c m) (fun k => ?_) ?_
        · simp only [spec_MachineOk.l1, in01, Option.bind_some]
          rw [if_pos (by omega), if_pos (by omega), if_pos (decide_eq_true (by omega))]
        refine spec_mok_l2 r N s rm v rt o a b c m hl i hlt _ (fun hm => ?_) (fun hm => ih (i + 1) (by omega) (fun j hj => ?_))
        · exact decide_eq_false (fun h : okMemo m => (h i hlt).2 hm)
        · rcases Nat.lt_succ_iff_lt_or_eq.1 hj with h1 | rfl
          · exact hall j h1
          · exact ⟨c0, hm⟩
      · rw [decide_eq_false (fun h : okMemo m => c0 (h i hlt).1)]
        refine ev_step (f := fun _ => some false) (fun k => ?_) (ev_some _)
        simp only [spec_MachineOk.l1, in01, Option.bind_some]
        rw [if_pos (by omega), if_pos (by omega), if_neg (by rw [decide_eq_true_eq]; omega)]
  exact h m.length 0 (by omega) (fun j hj => by omega)
theorem spec_mok_l0 (hl : m.length ≤ 1099511627776) (hv : v.length ≤ 1099511627776) : Ev (fun k => spec_MachineOk.l0 k 0 r N s rm v rt o a b c m) (v.all isBit && decide (okMemo m)) := by
  have h : ∀ d i, i + d = v.length → (∀ j, j < i → isBit (v.getD j 0) = true) → Ev (fun k => spec_MachineOk.l0 k (i : Int) r N s rm v rt o a b c m) (v.all isBit && decide (okMemo m)) := by
    intro d
    induction d with
    | zero =>
      intro i hi hall
      rw [show v.all isBit = true from by rw [← all_getD]; exact List.all_eq_true.2 fun j hj => hall j (by simp at hj; omega), Bool.true_and]
      refine ev_step (fun k => ?_) (spec_mok_l1 r N s rm v rt o a b c m hl)
      simp only [spec_MachineOk.l0]
      rw [if_neg (by omega)]
    | succ d ih =>
      intro i hi hall
      by_cases c0 : isBit (v.getD i 0) = true
      · refine ev_step (fun k => ?_) (ih (i + 1) (by omega) (fun j hj => ?_))
        · simp only [spec_MachineOk.l0, in01, Option.bind_some, rd_nat]
          unfold isBit at c0
          simp only [Bool.or_eq_true, beq_iff_eq] at c0
          rw [if_pos (by omega), if_pos (by omega), if_pos (decide_eq_true (by omega)), w64s i (by omega)]
        · rcases Nat.lt_succ_iff_lt_or_eq.1 hj with h1 | rfl
          · exact hall j h1
          · exact c0
      · have hf : v.all isBit = false := by
          rw [← all_getD]
          exact Bool.eq_false_iff.2 fun h => c0 (List.all_eq_true.1 h i (by simp; omega))
        rw [hf, Bool.false_and]
        refine ev_step (f := fun _ => some false) (fun k => ?_) (ev_some _)
        simp only [spec_MachineOk.l0, in01, Option.bind_some, rd_nat]
        unfold isBit at c0
        simp only [Bool.or_eq_true, beq_iff_eq] at c0
        rw [if_pos (by omega), if_pos (by omega), if_neg (by rw [decide_eq_true_eq]; omega)]
  exact h v.length 0 (by omega) (fun j hj => by omega)
theorem spec_mok_j1 (hl : m.length ≤ 1099511627776) (hv : v.length ≤ 1099511627776) (x : Bool) : Ev (fun k => spec_MachineOk.j1 k x r N s rm v rt o a b c m) (!x && (v.all isBit && decide (okMemo m))) := by
  cases x with
  | true =>
    refine ev_step (f := fun _ => some false) (fun k => ?_) (ev_some _)
    simp only [spec_MachineOk.j1]
    rw [if_pos trivial]
  | false =>
    refine ev_step (fun k => ?_) (spec_mok_l0 r N s rm v rt o a b c m hl hv)
    simp only [spec_MachineOk.j1]
    rw [if_neg (by decide)]
theorem spec_mok_j0 (hl : m.length ≤ 1099511627776) (hv : v.length ≤ 1099511627776) (x : Bool) :
    Ev (fun k => spec_MachineOk.j0 k x r N s rm v rt o a b c m) (!x && (!(o && (decide (rt < 0) || decide ((v.length : Int) > 0))) && okCounts a b c && (v.all isBit && decide (okMemo m)))) := by
  have hj := spec_mok_j1 r N s rm v rt o a b c m hl hv
  cases x with
  | true =>
    refine ev_step (f := fun _ => some false) (fun k => ?_) (ev_some _)
    simp only [spec_MachineOk.j0]
    rw [if_pos trivial]
  | false =>
    have hc : Ev (fun k => spec_MachineOk.j1 k (!okCounts a b c) r N s rm v rt o a b c m) (okCounts a b c && (v.all isBit && decide (okMemo m))) := by
      have := hj (!okCounts a b c)
      rwa [Bool.not_not] at this
    have hcc : ∀ k, ((some (decide (0 ≤ a ∧ a ≤ 1000000000))).bind fun t => if t = true then ((some (decide (0 ≤ b ∧ b ≤ 1000000000))).bind fun t => if t = true then ((some (decide (0 ≤ c ∧ c ≤ 1000000000))).bind fun t => spec_MachineOk.j1 k (!t) r N s rm v rt o a b c m) else spec_MachineOk.j1 k true r N s rm v rt o a b c m) else spec_MachineOk.j1 k true r N s rm v rt o a b c m) = spec_MachineOk.j1 k (!okCounts a b c) r N s rm v rt o a b c m := by
      intro k
      unfold okCounts
      cases decide (0 ≤ a ∧ a ≤ 1000000000) <;> cases decide (0 ≤ b ∧ b ≤ 1000000000) <;> cases decide (0 ≤ c ∧ c ≤ 1000000000) <;> rfl
    cases o with
    | false =>
      refine ev_step (f := fun k => spec_MachineOk.j1 k (!okCounts a b c) r N s rm v rt false a b c m) (fun k => ?_) (by simpa using hc)
      simp only [spec_MachineOk.j0, in01]
      rw [if_neg (by decide), if_neg (by decide)]
      exact hcc k
    | true =>
      by_cases h0 : rt < 0
      · refine ev_step (f := fun k => spec_MachineOk.j1 k true r N s rm v rt true a b c m) (fun k => ?_) (by have := hj true; simpa [h0] using this)
        simp only [spec_MachineOk.j0, in01]
        rw [if_neg (by decide), if_pos trivial, if_pos h0]
      · by_cases h1 : (v.length : Int) > 0
        · refine ev_step (f := fun k => spec_MachineOk.j1 k true r N s rm v rt true a b c m) (fun k => ?_) (by have := hj true; rw [decide_eq_true h1]; simpa using this)
          simp only [spec_MachineOk.j0, in01]
          rw [if_neg (by decide), if_pos trivial, if_neg h0, if_pos h1]
        · refine ev_step (f := fun k => spec_MachineOk.j1 k (!okCounts a b c) r N s rm v rt true a b c m) (fun k => ?_) (by rw [decide_eq_false h0, decide_eq_false h1]; simpa using hc)
          simp only [spec_MachineOk.j0, in01]
          rw [if_neg (by decide), if_pos trivial, if_neg h0, if_neg h1]
          exact hcc k
theorem spec_MachineOk_ev (hs : s.size ≤ 1099511627776) (hl : m.length ≤ 1099511627776) (hv : v.length ≤ 1099511627776) : Ev (fun k => spec_MachineOk.f k r N s rm v rt o a b c m) (mOkB r N s rm v rt o a b c m) := by
  have hj := spec_mok_j0 r N s rm v rt o a b c m hl hv
  have h8 : Ev (fun k => spec_l08Ok.f k r N s) (tok N s && ((r.length : Int) == N)) := by
    refine ev_ge (s.size + 20) fun k hk => ?_
    unfold spec_l08Ok.f
    rw [spec_TableOk_eq N s hs k hk, Option.bind_some]
    cases tok N s <;> rfl
  have ht := hj true
  have hn : ∀ q : Bool, q = false → Ev (fun k => spec_MachineOk.j0 k true r N s rm v rt o a b c m) q := fun q hq => by rw [hq]; exact ht
  unfold spec_MachineOk.f
  refine ev_bind h8 ?_
  unfold mOkB okFront okRet
  cases (tok N s && ((r.length : Int) == N)) with
  | false => simp only [if_neg (show ¬ (false = true) by decide)]; exact hn _ (by simp)
  | true =>
    simp only [if_true, in01, Option.bind_some]
    cases decide (0 ≤ rm ∧ rm ≤ 40) with
    | false => simp only [if_neg (show ¬ (false = true) by decide)]; exact hn _ (by simp)
    | true =>
      simp only [if_true]
      by_cases h1 : (m.length : Int) > rm
      · simp only [if_pos h1]; exact hn _ (by rw [decide_eq_true h1]; simp)
      · by_cases h2 : (v.length : Int) > N
        · simp only [if_neg h1, if_pos h2]; exact hn _ (by rw [decide_eq_true h2]; simp)
        · simp only [if_neg h1, if_neg h2]
          have := hj (!decide (-1 ≤ rt ∧ rt ≤ 1))
          rw [decide_eq_false h1, decide_eq_false h2]
          have e : ∀ p q u z w : Bool, (!!p && (!q && u && (z && w))) = (true && (true && !false && !false) && z && (p && !q) && w && u) := by decide +kernel
          rw [e] at this
          exact this
end
end Go.Proofs.Ytlpfmhikahlcoaa.Pure
/- Tables put together value by value, the program's and the reference's. Conditions: each lemma's own hypotheses. -/
set_option linter.unusedSimpArgs false
set_option linter.unusedVariables false
namespace Go.Proofs.Ytlpfmhikahlcoaa.Pure
open Go.RowKit Go.Proofs.Ytlpfmhikahlcoaa.G Go.Proofs.YtlpfmhikahlcoaaW.PrintWords Go.Proofs.YtlpfmhikahlcoaaW.PrintLast Go.Proofs.YtlpfmhikahlcoaaW.PrintMore

/-- The flags of a table's values. -/
def flags (s : ByteArray) : List Bool := s.data.toList.map fun c => c == 49
theorem flags_ones (l : List Bool) : flags (ones l) = l := by
  unfold flags
  simp only [ones, List.map_map]
  exact (List.map_congr_left (fun b _ => by cases b <;> rfl)).trans (List.map_id l)
/-- The table of what is not. -/
def notT (N : Int) (s : ByteArray) : Int × ByteArray := if tok N s then (N, ones ((flags s).map not)) else (0, ⟨#[]⟩)
theorem range_getD (l : List Bool) (f : Bool → Bool) : (List.range l.length).map (fun i => f (l.getD i false)) = l.map f := by
  apply List.ext_getElem
  · simp
  · intro i h1 h2
    simp only [List.getElem_map, List.getElem_range]
    rw [getD_lt l i false (by simpa using h1)]
/-- Two tables put together, value by value. -/
def bothT (f : Bool → Bool → Bool) (N : Int) (s : ByteArray) (M : Int) (t : ByteArray) : Int × ByteArray × Bool := if tok N s && tok M t && (N == M) then (N, ones (List.zipWith f (flags s) (flags t)), true) else (0, ⟨#[]⟩, false)
theorem range_zip (a b : List Bool) (f : Bool → Bool → Bool) (h : a.length = b.length) : (List.range a.length).map (fun i => f (a.getD i false) (b.getD i false)) = List.zipWith f a b := by
  apply List.ext_getElem
  · simp [h]
  · intro i h1 h2
    have h3 : i < a.length := by simpa using h1
    simp only [List.getElem_map, List.getElem_range, List.getElem_zipWith]
    rw [getD_lt a i false h3, getD_lt b i false (by omega)]
theorem same_len {n m : Nat} {a b : List Bool} (ha : a.length = 2 ^ n) (hb : b.length = 2 ^ m) (h : (n : Int) = (m : Int)) : a.length = b.length := by
  have : n = m := by omega
  rw [ha, hb, this]
theorem eqTable_self (N : Int) (s : ByteArray) : laws_eqTable.f N s N s = some true := by
  unfold laws_eqTable.f
  rw [if_pos rfl, if_pos rfl]
end Go.Proofs.Ytlpfmhikahlcoaa.Pure
/- How many of a table's values are 1, and whether they are all the same. Conditions: each lemma's own hypotheses. -/

set_option linter.unusedSimpArgs false
set_option linter.unusedVariables false
namespace Go.Proofs.Ytlpfmhikahlcoaa.Pure
open Go.RowKit Go.Proofs.Ytlpfmhikahlcoaa.G Go.Proofs.YtlpfmhikahlcoaaW.PrintWords Go.Proofs.YtlpfmhikahlcoaaW.PrintLast Go.Proofs.YtlpfmhikahlcoaaW.PrintMore

theorem ones_data (l : List Bool) : (ones l).data.toList = l.map fun b => if b then (49 : UInt8) else 48 := by simp [ones]
theorem contains1 (l : List Bool) : (ones l).data.toList.contains 49 = l.contains true := by
  rw [ones_data]
  induction l with
  | nil => rfl
  | cons b l ih =>
    rw [List.map_cons, List.contains_cons, List.contains_cons, ih]
    congr 1
    cases b <;> rfl
theorem contains0 (l : List Bool) : (ones l).data.toList.contains 48 = l.contains false := by
  rw [ones_data]
  induction l with
  | nil => rfl
  | cons b l ih =>
    rw [List.map_cons, List.contains_cons, List.contains_cons, ih]
    congr 1
    cases b <;> rfl
theorem count1 (l : List Bool) : (ones l).data.toList.count 49 = l.count true := by
  rw [ones_data]
  induction l with
  | nil => rfl
  | cons b l ih =>
    rw [List.map_cons, List.count_cons, List.count_cons, ih]
    congr 1
    cases b <;> rfl
/-- The one value of all of a table's, or -1. -/
def knownT (N : Int) (s : ByteArray) : Int := if tok N s then (if (flags s).contains true then (if (flags s).contains false then -1 else 1) else 0) else -1
theorem all_cont (t : List Bool) (b : Bool) : (t.all fun x => x == b) = !t.contains (!b) := by
  induction t with
  | nil => rfl
  | cons x t ih =>
    rw [List.all_cons, ih, List.contains_cons]
    cases x <;> cases b <;> simp
theorem range_all_getD (t : List Bool) (b : Bool) : ((List.range t.length).all fun i => t.getD i false == b) = t.all fun x => x == b := by
  have h := congrArg (fun m : List Bool => m.all id) (range_getD t (fun x => x == b))
  simpa [List.all_map, Function.comp_def] using h
/-- How many of a table's values are 1, or -1. -/
def countT (N : Int) (s : ByteArray) : Int := if tok N s then (((flags s).count true : Nat) : Int) else -1
end Go.Proofs.Ytlpfmhikahlcoaa.Pure
/- Halves of tables; the value of a row of choices over a table. Conditions: each lemma's own hypotheses. -/
set_option linter.unusedSimpArgs false
set_option linter.unusedVariables false
namespace Go.Proofs.Ytlpfmhikahlcoaa.Pure
open Go.RowKit Go.Proofs.Ytlpfmhikahlcoaa.G Go.Proofs.YtlpfmhikahlcoaaW.PrintWords Go.Proofs.YtlpfmhikahlcoaaW.PrintLast Go.Proofs.YtlpfmhikahlcoaaW.PrintMore

theorem ones_extract (l : List Bool) (a b : Nat) : (ones l).extract a b = ones ((l.take b).drop a) := by
  apply data_inj
  rw [ByteArray.data_extract]
  simp only [ones, Array.toList_extract, List.extract_eq_take_drop, List.map_drop, List.map_take]
  rw [List.drop_take]
/-- A half of a table. -/
def halfL (l : List Bool) (h : Bool) : List Bool := if h then l.drop (l.length / 2) else l.take (l.length / 2)
theorem halfL_len {n : Nat} {l : List Bool} (hl : l.length = 2 ^ (n + 1)) (h : Bool) : (halfL l h).length = 2 ^ n := by
  rw [Nat.pow_succ] at hl
  cases h <;> simp [halfL] <;> omega
/-- The half that a number tells; none where it tells none. -/
def halfT (N : Int) (s : ByteArray) (h : Int) : Int × ByteArray × Bool := if tok N s && (N != 0) && (h == 0 || h == 1) then (N - 1, ones (halfL (flags s) (h == 1)), true) else (0, ⟨#[]⟩, false)
theorem spec_Half_eq (N : Int) (s : ByteArray) (h : Int) (hs : s.size ≤ 1099511627776) : ∀ k, s.size + 20 < k → spec_Half.f k N s h = some (halfT N s h) := by
  intro k hk
  unfold spec_Half.f halfT
  rw [spec_TableOk_eq N s hs k hk, Option.bind_some]
  cases ht : tok N s with
  | false => rfl
  | true =>
    obtain ⟨n, l, rfl, hn, hl, rfl⟩ := tok_form ht
    have hp := pow12 hn
    rw [if_pos rfl]
    by_cases h0 : (n : Int) = 0
    · rw [if_pos h0, h0]
      rfl
    · have e0 : ((n : Int) != 0) = true := bne_iff_ne.2 h0
      rw [if_neg h0, e0]
      unfold spec_l01In.f
      by_cases h1 : h = 0 ∨ h = 1
      · obtain ⟨m, rfl⟩ : ∃ m, n = m + 1 := ⟨n - 1, by omega⟩
        have hl2 : l.length = 2 * 2 ^ m := by rw [hl, Nat.pow_succ, Nat.mul_comm]
        have hhalf : l.length / 2 = 2 ^ m := by omega
        rw [if_pos (by omega), Option.bind_some, if_pos (by simp; omega), ones_size, show ((l.length : Nat) : Int) / 2 = ((l.length / 2 : Nat) : Int) by omega, w64 (n := ((l.length / 2 : Nat) : Int)) (by omega) (by omega), w64 (n := ((m + 1 : Nat) : Int) - 1) (by omega) (by omega)]
        rcases h1 with h1 | h1
        · subst h1
          rw [Int.zero_mul, w64 (n := 0) (by omega) (by omega), Int.zero_add, w64 (n := ((l.length / 2 : Nat) : Int)) (by omega) (by omega), if_pos (by omega), if_pos (by omega), if_pos (by omega), Int.toNat_natCast, show (0 : Int).toNat = 0 from rfl, ones_extract, flags_ones]
          rfl
        · subst h1
          rw [Int.one_mul, w64 (n := ((l.length / 2 : Nat) : Int)) (by omega) (by omega), w64 (n := ((l.length / 2 : Nat) : Int) + ((l.length / 2 : Nat) : Int)) (by omega) (by omega), if_pos (by omega), if_pos (by omega), if_pos (by omega), Int.toNat_natCast, show (((l.length / 2 : Nat) : Int) + ((l.length / 2 : Nat) : Int)).toNat = l.length by omega, ones_extract, flags_ones, List.take_length]
          rfl
      · have e : (h == 0 || h == 1) = false := by simp; omega
        rw [e]
        by_cases h2 : h ≥ 0
        · rw [if_pos h2, Option.bind_some, if_neg (by simp; omega)]
          rfl
        · rw [if_neg h2, Option.bind_some, if_neg (by decide)]
          rfl
/-- The value of a row of 'for all' (true) and 'there is' (false) over a table. -/
def dec : List Bool → List Bool → Bool
  | [], l => l.getD 0 false
  | a :: r, l => if a then dec r (halfL l false) && dec r (halfL l true) else dec r (halfL l false) || dec r (halfL l true)
theorem dec_const (b : Bool) : ∀ (r l : List Bool), l.length = 2 ^ r.length → l.contains (!b) = false → dec r l = b := by
  intro r
  induction r with
  | nil =>
    intro l hl hc
    match l, hl with
    | [x], _ => cases b <;> cases x <;> simp_all [dec]
  | cons a r ih =>
    intro l hl hc
    have hsub : ∀ h, (halfL l h).contains (!b) = false := by
      intro h
      rw [← Bool.not_eq_true, List.contains_iff_mem] at hc ⊢
      intro hm
      apply hc
      cases h
      · exact List.mem_of_mem_take hm
      · exact List.mem_of_mem_drop hm
    simp only [dec]
    rw [ih _ (halfL_len (by simpa using hl) false) (hsub false), ih _ (halfL_len (by simpa using hl) true) (hsub true)]
    cases a <;> cases b <;> rfl
def b01 (b : Bool) : Int := if b then 1 else 0
/-- What Decide tells. -/
def decT (r : List Bool) (N : Int) (s : ByteArray) : Int × Bool := if tok N s && ((r.length : Int) == N) then (b01 (dec r (flags s)), true) else (0, false)
/-- What Choose tells. -/
def choT (r : List Bool) (N : Int) (s : ByteArray) : Int × Bool := if tok N s && ((r.length : Int) == N) && (N != 0) then (b01 (dec (r.drop 1) (halfL (flags s) false) != dec r (flags s)), true) else (0, false)
end Go.Proofs.Ytlpfmhikahlcoaa.Pure
