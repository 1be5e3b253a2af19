-- texts of this session, merged by a program of it (wip/gen/pack.py)
import Derived.Test.YteagogcpbcickaaKFnExactGraphIf2
import Derived.Test.YteagogcpbcickaaKFnExactGraphIf3
import Derived.Test.YteagogcpbcickaaKFnExactGraphIf4
import Derived.Test.YteagogcpbcickaaKFnExactGraphIf8
import Derived.Test.YteagogcpbcickaaKFnExactGraphIf5
-- written by a program of this session (wip/gen/gen.py); Lean checks it
namespace Go.Proofs.Yteagogcpbcickaa.G
open Go.Proofs.Yteagogcpbcickaa.Sh Go.RowKit Go.Proofs.YteagogcpbcickaaW.PrintWords Go.Proofs.YteagogcpbcickaaW.PrintLast Go.Proofs.YteagogcpbcickaaW.PrintMore
attribute [local go_sem] max2_int min2_int max_two min_two max_three min_three max_four min_four   -- for this text's walks alone
set_option linter.unusedVariables false
set_option linter.unusedSimpArgs false

/-! ### laws_FnExactGraphIf: function 9 -/
mutual
def laws_FnExactGraphIf.j0 : Nat → Int → Int → Int → Int → Int → Bool → Int → List (S116) → Int → List (S79) → Int → List (S79) → Int → List (S79) → Option (Bool)
  | 0, _, _, _, _, _, _, _, _, _, _, _, _, _, _ => none
  | k + 1, x1, x2, x3, x11, x14, x52, x102000, x102001, x113000, x113001, x118000, x118001, x124000, x124001 => if x52 = true then (some false) else ((laws_toGraph.f k x102000 x102001).bind fun bt125 => ((laws_eqGraph.f k x118000 x118001 bt125.1 bt125.2).bind fun t129 => (if t129 = true then ((laws_markGraph.f k x118000 x118001 1).bind fun bt130 => (if bt130.1 < 0 then (laws_FnExactGraphIf.j1 k x1 x2 x3 x11 true x102000 x102001 x113000 x113001 x124000 x124001) else ((laws_eqGraph.f k x124000 x124001 x113000 x113001).bind fun t132 => (if t132 = true then (laws_FnExactGraphIf.j1 k x1 x2 x3 x11 (x14 != x11) x102000 x102001 x113000 x113001 x124000 x124001) else (laws_FnExactGraphIf.j1 k x1 x2 x3 x11 true x102000 x102001 x113000 x113001 x124000 x124001))))) else (some false))))
def laws_FnExactGraphIf.j1 : Nat → Int → Int → Int → Int → Bool → Int → List (S116) → Int → List (S79) → Int → List (S79) → Option (Bool)
  | 0, _, _, _, _, _, _, _, _, _, _, _ => none
  | k + 1, x1, x2, x3, x11, x73, x102000, x102001, x113000, x113001, x124000, x124001 => if x73 = true then (some false) else ((laws_markGraph.f k x124000 x124001 1).bind fun bt133 => ((laws_heldGraph.f k x124000 bt133.2 1).bind fun t135 => (if t135 < 0 then (some false) else (if t135 = bt133.1 then ((laws_toGraph.f k x102000 x102001).bind fun bt136 => ((impl_GraphIf.f bt136.1 bt136.2 x1 x2 x3).bind fun bt140 => ((laws_eqGraph.f k bt140.1 bt140.2.1 x113000 x113001).bind fun t146 => (if t146 = true then (laws_FnExactGraphIf.j2 k bt133.1 (bt140.2.2 != x11) x124000 bt133.2) else (laws_FnExactGraphIf.j2 k bt133.1 true x124000 bt133.2))))) else (some false)))))
def laws_FnExactGraphIf.j2 : Nat → Int → Bool → Int → List (S79) → Option (Bool)
  | 0, _, _, _, _ => none
  | k + 1, x16, x102, x124000, x124001 => if x102 = true then (some false) else ((laws_heldGraph.f k x124000 x124001 1).bind fun t147 => (if t147 < 0 then (some false) else (if t147 = x16 then (some true) else (some false))))
end
def laws_FnExactGraphIf.f (k : Nat) (a0_0 : Int) (l0_1 : List (S116)) (a1 : Int) (a2 : Int) (a3 : Int) : Option (Bool) := (laws_szGraph.f a0_0 l0_1 1048576).bind fun t102 => (if t102 < 0 then (some true) else ((laws_toGraph.f k a0_0 l0_1).bind fun bt103 => ((spec_GraphIf.f k bt103.1 bt103.2 a1 a2 a3).bind fun bt107 => ((laws_toGraph.f k a0_0 l0_1).bind fun bt113 => ((impl_GraphIf.f bt113.1 bt113.2 a1 a2 a3).bind fun bt118 => ((laws_eqGraph.f k bt118.1 bt118.2.1 bt107.1 bt107.2.1).bind fun t124 => (if t124 = true then (laws_FnExactGraphIf.j0 k a1 a2 a3 bt107.2.2 bt118.2.2 (bt118.2.2 != bt107.2.2) a0_0 l0_1 bt107.1 bt107.2.1 bt113.1 bt113.2 bt118.1 bt118.2.1) else (laws_FnExactGraphIf.j0 k a1 a2 a3 bt107.2.2 bt118.2.2 true a0_0 l0_1 bt107.1 bt107.2.1 bt113.1 bt113.2 bt118.1 bt118.2.1))))))))
set_option maxHeartbeats 80000000 in
set_option maxRecDepth 100000 in
theorem laws_FnExactGraphIf.calls (k : Nat) (a0_0 : Int) (A0_1 : Option Addr) (c0_1 : Nat) (l0_1 : List (S116)) (a1 : Int) (a2 : Int) (a3 : Int) (r : Bool) (w : World) (hr0_1 : Kd.C k116 w A0_1 l0_1.length l0_1) (hc0_1 : l0_1.length ≤ c0_1) (ht_ : r = true) (h : laws_FnExactGraphIf.f k a0_0 l0_1 a1 a2 a3 = some r) :
  Calls Try.prog 9 #[.agg #[.int .i64 a0_0, .slice A0_1 l0_1.length c0_1], .int .i64 a1, .int .i64 a2, .int .i64 a3] w fun e w' => e = .returned (.bool r) ∧ Below w.heap.size w w' := by
 have hu24 := Try.underlying24; have hu29 := Try.underlying29; have HT := Aside0.mk ht_; clear ht_; have HR0_1 := Aside0.mk hr0_1; have HC0_1 := Aside0.mk hc0_1; clear hr0_1 hc0_1; have HB := Aside0.mk (Below.refl w.heap.size w)
 have H : ((laws_szGraph.f a0_0 l0_1 1048576).bind fun t102 => (if t102 < 0 then (some true) else ((laws_toGraph.f k a0_0 l0_1).bind fun bt103 => ((spec_GraphIf.f k bt103.1 bt103.2 a1 a2 a3).bind fun bt107 => ((laws_toGraph.f k a0_0 l0_1).bind fun bt113 => ((impl_GraphIf.f bt113.1 bt113.2 a1 a2 a3).bind fun bt118 => ((laws_eqGraph.f k bt118.1 bt118.2.1 bt107.1 bt107.2.1).bind fun t124 => (if t124 = true then (laws_FnExactGraphIf.j0 k a1 a2 a3 bt107.2.2 bt118.2.2 (bt118.2.2 != bt107.2.2) a0_0 l0_1 bt107.1 bt107.2.1 bt113.1 bt113.2 bt118.1 bt118.2.1) else (laws_FnExactGraphIf.j0 k a1 a2 a3 bt107.2.2 bt118.2.2 true a0_0 l0_1 bt107.1 bt107.2.1 bt113.1 bt113.2 bt118.1 bt118.2.1))))))))) = some r := h
 clear h
 replace H := Option.bind_eq_some_iff.mp H
 obtain ⟨t102, A50, H⟩ := H
 replace H : (if t102 < 0 then (some true) else ((laws_toGraph.f k a0_0 l0_1).bind fun bt103 => ((spec_GraphIf.f k bt103.1 bt103.2 a1 a2 a3).bind fun bt107 => ((laws_toGraph.f k a0_0 l0_1).bind fun bt113 => ((impl_GraphIf.f bt113.1 bt113.2 a1 a2 a3).bind fun bt118 => ((laws_eqGraph.f k bt118.1 bt118.2.1 bt107.1 bt107.2.1).bind fun t124 => (if t124 = true then (laws_FnExactGraphIf.j0 k a1 a2 a3 bt107.2.2 bt118.2.2 (bt118.2.2 != bt107.2.2) a0_0 l0_1 bt107.1 bt107.2.1 bt113.1 bt113.2 bt118.1 bt118.2.1) else (laws_FnExactGraphIf.j0 k a1 a2 a3 bt107.2.2 bt118.2.2 true a0_0 l0_1 bt107.1 bt107.2.1 bt113.1 bt113.2 bt118.1 bt118.2.1)))))))) = some r := H
 have A5 := Aside0.mk A50; clear A50
 by_cases c6 : t102 < 0
 ·rw [if_pos c6] at H
  have c6b0 : decide (t102 < 0) = true := decide_eq_true c6; clear c6
  obtain rfl := Option.some.inj H
  go_enter Try.func9, Try.ntmps9
  go_wp2_with (first | ((with_reducible refine gate_dst (N := 4) rfl ?_); refine box_event ?hg (N := 4) ?hd (cs := #[.int .i64 a0_0, .slice A0_1 l0_1.length c0_1]) (t := 24) ?hr ?_; (case hd => rfl); (case hg => rfl); (case hr => first | (go_simp; done) | (go_simp; rfl)); intro gb101 hg w7 hbox hb; have n0_ := bs0 HB hb; have n1_ := Aside0.mk (hbox); have n2_ := bz0 hg HB; have n3_ := bz0 hg HB; clear HB; have HB := n0_; have BK101 := n1_; have GW101 := n2_; have GE101 := n3_; clear n0_ n1_ n2_ n3_; clear hb hbox hg; have hcz8_0 : w7.cell? ⟨gb101, 0, none⟩ = some (.int .i64 a0_0) := (blk_cell BK101.out 0).trans rfl; have hcz8_1 : w7.cell? ⟨gb101, 1, none⟩ = some (.slice A0_1 l0_1.length c0_1) := (blk_cell BK101.out 1).trans rfl; have hfz8_0 := blk_frozen BK101.out 0; have hfz8_1 := blk_frozen BK101.out 1) | ((with_reducible refine gate_callee (f := 15) rfl ?_); refine goesL_ (some 22) rfl rfl Try.func15 (by kernel_rfl) rfl #[.agg #[.int .i64 a0_0, .slice A0_1 l0_1.length c0_1], .int .i64 1048576] rfl (by (try simp only [List.map_toArray, List.map_cons, List.map_nil]); first | done | rfl | (simp only [List.length_drop, List.length_take]; rfl)) ?_; (with_reducible refine (laws_szGraph.calls a0_0 _ _ l0_1 1048576 t102 _ ?side1 ?side2 A5.out).mono ?_); (case side1 => repeat (first | exact (Kd.C_below HR0_1.out HB.out) | (with_reducible refine Kd.C_alloc ?_ _) | (with_reducible refine Kd.C_drewN ?_ _) | (with_reducible refine Kd.C_drew ?_))); (case side2 => exact HC0_1.out); rintro e w9 ⟨rfl, hb⟩; refine ⟨_, rfl, ?_⟩; have n0_ := bb BK101 hb; have n1_ := bs1 HB hb GE101; clear BK101; clear HB; have BK101 := n0_; have HB := n1_; clear n0_ n1_; (try clear hb); (try clear hb2); (try clear hk); (try clear hi)))
  go_ret
  exact ⟨by first | rfl | (simp [errW_none, errW_some] <;> rfl) | (simp [*, errW_none, errW_some] <;> rfl), by repeat (first | (with_reducible first | exact HB.out | apply below_alloc | apply pw_below_drewN | apply below_drew1 | refine below_set ?_ GE101.out) | exact HB.out)⟩
 ·rw [if_neg c6] at H
  have c6b0 : decide (t102 < 0) = false := decide_eq_false c6; clear c6
  replace H := Option.bind_eq_some_iff.mp H
  obtain ⟨⟨t103, t104⟩, A100, H⟩ := H
  replace H : ((spec_GraphIf.f k t103 t104 a1 a2 a3).bind fun bt107 => ((laws_toGraph.f k a0_0 l0_1).bind fun bt113 => ((impl_GraphIf.f bt113.1 bt113.2 a1 a2 a3).bind fun bt118 => ((laws_eqGraph.f k bt118.1 bt118.2.1 bt107.1 bt107.2.1).bind fun t124 => (if t124 = true then (laws_FnExactGraphIf.j0 k a1 a2 a3 bt107.2.2 bt118.2.2 (bt118.2.2 != bt107.2.2) a0_0 l0_1 bt107.1 bt107.2.1 bt113.1 bt113.2 bt118.1 bt118.2.1) else (laws_FnExactGraphIf.j0 k a1 a2 a3 bt107.2.2 bt118.2.2 true a0_0 l0_1 bt107.1 bt107.2.1 bt113.1 bt113.2 bt118.1 bt118.2.1)))))) = some r := H
  have A10 := Aside0.mk A100; clear A100
  replace H := Option.bind_eq_some_iff.mp H
  obtain ⟨⟨t107, t108, t111⟩, A110, H⟩ := H
  replace H : ((laws_toGraph.f k a0_0 l0_1).bind fun bt113 => ((impl_GraphIf.f bt113.1 bt113.2 a1 a2 a3).bind fun bt118 => ((laws_eqGraph.f k bt118.1 bt118.2.1 t107 t108).bind fun t124 => (if t124 = true then (laws_FnExactGraphIf.j0 k a1 a2 a3 t111 bt118.2.2 (bt118.2.2 != t111) a0_0 l0_1 t107 t108 bt113.1 bt113.2 bt118.1 bt118.2.1) else (laws_FnExactGraphIf.j0 k a1 a2 a3 t111 bt118.2.2 true a0_0 l0_1 t107 t108 bt113.1 bt113.2 bt118.1 bt118.2.1))))) = some r := H
  have A11 := Aside0.mk A110; clear A110
  replace H := Option.bind_eq_some_iff.mp H
  obtain ⟨⟨t113, t114⟩, A120, H⟩ := H
  replace H : ((impl_GraphIf.f t113 t114 a1 a2 a3).bind fun bt118 => ((laws_eqGraph.f k bt118.1 bt118.2.1 t107 t108).bind fun t124 => (if t124 = true then (laws_FnExactGraphIf.j0 k a1 a2 a3 t111 bt118.2.2 (bt118.2.2 != t111) a0_0 l0_1 t107 t108 t113 t114 bt118.1 bt118.2.1) else (laws_FnExactGraphIf.j0 k a1 a2 a3 t111 bt118.2.2 true a0_0 l0_1 t107 t108 t113 t114 bt118.1 bt118.2.1)))) = some r := H
  have A12 := Aside0.mk A120; clear A120
  replace H := Option.bind_eq_some_iff.mp H
  obtain ⟨⟨t118, t119, t122⟩, A130, H⟩ := H
  replace H : ((laws_eqGraph.f k t118 t119 t107 t108).bind fun t124 => (if t124 = true then (laws_FnExactGraphIf.j0 k a1 a2 a3 t111 t122 (t122 != t111) a0_0 l0_1 t107 t108 t113 t114 t118 t119) else (laws_FnExactGraphIf.j0 k a1 a2 a3 t111 t122 true a0_0 l0_1 t107 t108 t113 t114 t118 t119))) = some r := H
  have A13 := Aside0.mk A130; clear A130; have HC14 := Aside0.mk H; clear H
  go_enter Try.func9, Try.ntmps9
  go_upto_region 8 with (first | ((with_reducible refine gate_dst (N := 4) rfl ?_); refine box_event ?hg (N := 4) ?hd (cs := #[.int .i64 a0_0, .slice A0_1 l0_1.length c0_1]) (t := 24) ?hr ?_; (case hd => rfl); (case hg => rfl); (case hr => first | (go_simp; done) | (go_simp; rfl)); intro gb101 hg w15 hbox hb; have n0_ := bs0 HB hb; have n1_ := Aside0.mk (hbox); have n2_ := bz0 hg HB; have n3_ := bz0 hg HB; clear HB; have HB := n0_; have BK101 := n1_; have GW101 := n2_; have GE101 := n3_; clear n0_ n1_ n2_ n3_; clear hb hbox hg; have hcz16_0 : w15.cell? ⟨gb101, 0, none⟩ = some (.int .i64 a0_0) := (blk_cell BK101.out 0).trans rfl; have hcz16_1 : w15.cell? ⟨gb101, 1, none⟩ = some (.slice A0_1 l0_1.length c0_1) := (blk_cell BK101.out 1).trans rfl; have hfz16_0 := blk_frozen BK101.out 0; have hfz16_1 := blk_frozen BK101.out 1) | ((with_reducible refine gate_callee (f := 15) rfl ?_); refine goesL_ (some 22) rfl rfl Try.func15 (by kernel_rfl) rfl #[.agg #[.int .i64 a0_0, .slice A0_1 l0_1.length c0_1], .int .i64 1048576] rfl (by (try simp only [List.map_toArray, List.map_cons, List.map_nil]); first | done | rfl | (simp only [List.length_drop, List.length_take]; rfl)) ?_; (with_reducible refine (laws_szGraph.calls a0_0 _ _ l0_1 1048576 t102 _ ?side1 ?side2 A5.out).mono ?_); (case side1 => repeat (first | exact (Kd.C_below HR0_1.out HB.out) | (with_reducible refine Kd.C_alloc ?_ _) | (with_reducible refine Kd.C_drewN ?_ _) | (with_reducible refine Kd.C_drew ?_))); (case side2 => exact HC0_1.out); rintro e w17 ⟨rfl, hb⟩; refine ⟨_, rfl, ?_⟩; have n0_ := bb BK101 hb; have n1_ := bs1 HB hb GE101; clear BK101; clear HB; have BK101 := n0_; have HB := n1_; clear n0_ n1_; (try clear hb); (try clear hb2); (try clear hk); (try clear hi); have hcz18_0 : w17.cell? ⟨gb101, 0, none⟩ = some (.int .i64 a0_0) := (blk_cell BK101.out 0).trans rfl; have hcz18_1 : w17.cell? ⟨gb101, 1, none⟩ = some (.slice A0_1 l0_1.length c0_1) := (blk_cell BK101.out 1).trans rfl; have hfz18_0 := blk_frozen BK101.out 0; have hfz18_1 := blk_frozen BK101.out 1) | ((with_reducible refine gate_callee (f := 17) rfl ?_); refine goesL_ (some 27) rfl rfl Try.func17 (by kernel_rfl) rfl #[.agg #[.int .i64 a0_0, .slice A0_1 l0_1.length c0_1]] rfl (by (try simp only [List.map_toArray, List.map_cons, List.map_nil]); first | done | rfl | (simp only [List.length_drop, List.length_take]; rfl)) ?_; (with_reducible refine (laws_toGraph.calls k a0_0 _ _ l0_1 t103 t104 _ ?side1 ?side2 A10.out).mono ?_); (case side1 => repeat (first | exact (Kd.C_below HR0_1.out HB.out) | (with_reducible refine Kd.C_alloc ?_ _) | (with_reducible refine Kd.C_drewN ?_ _) | (with_reducible refine Kd.C_drew ?_))); (case side2 => exact HC0_1.out); rintro e w19 ⟨v105, rfl, ho0, hb⟩; refine ⟨_, rfl, ?_⟩; have n0_ := Aside0.mk (Kd.R_lower ho0 (below_size (by repeat (first | (with_reducible first | exact HB.out | apply below_alloc | apply pw_below_drewN | apply below_drew1 | refine below_set ?_ GE101.out) | exact HB.out)))); have n1_ := bb BK101 hb; have n2_ := bs1 HB hb GE101; clear BK101; clear HB; have HO106 := n0_; have BK101 := n1_; have HB := n2_; clear n0_ n1_ n2_; (try clear hb); (try clear hb2); (try clear hk); (try clear hi); (try clear ho0); obtain ⟨Ao20, co20, eo20⟩ := Kd.R_slice HO106.out; subst eo20) | ((with_reducible refine gate_callee (f := 35) rfl ?_); refine goesL_ (some 31) rfl rfl Try.func35 (by kernel_rfl) rfl #[.agg #[.int .i64 t103, .slice Ao20 t104.length co20], .int .i64 a1, .int .i64 a2, .int .i64 a3] rfl (by (try simp only [List.map_toArray, List.map_cons, List.map_nil]); first | done | rfl | (simp only [List.length_drop, List.length_take]; rfl)) ?_; (with_reducible refine (spec_GraphIf.calls k t103 _ _ t104 a1 a2 a3 t107 t108 t111 _ ?side1 ?side2 A11.out).mono ?_); (case side1 => repeat (first | exact (Kd.R_reads' HO106.out).2.2 | (with_reducible refine Kd.C_alloc ?_ _) | (with_reducible refine Kd.C_drewN ?_ _) | (with_reducible refine Kd.C_drew ?_))); (case side2 => exact (Kd.R_reads' HO106.out).2.1); rintro e w21 ⟨v109, rfl, ho0, hb⟩; refine ⟨_, rfl, ?_⟩; have n0_ := re HO106 (Kd.R_base ho0) hb; have n1_ := Aside0.mk (Kd.R_lower (Kd.R_new' ho0 (Kd.R_lt (by (with_reducible repeat (first | apply Kd.R_alloc | apply Kd.R_drewN | apply Kd.R_drew)); exact HO106.out))) (below_size (by repeat (first | (with_reducible first | exact HB.out | apply below_alloc | apply pw_below_drewN | apply below_drew1 | refine below_set ?_ GE101.out) | exact HB.out)))); have n2_ := bb BK101 hb; have n3_ := bs1 HB hb GE101; clear HO106; clear BK101; clear HB; have HO106 := n0_; have HO110 := n1_; have BK101 := n2_; have HB := n3_; clear n0_ n1_ n2_ n3_; (try clear hb); (try clear hb2); (try clear hk); (try clear hi); (try clear ho0)) | ((with_reducible refine gate_dst (N := 10) rfl ?_); refine box_event ?hg (N := 10) ?hd (cs := #[.int .i64 0, .slice none 0 0]) (t := 29) ?hr ?_; (case hd => rfl); (case hg => rfl); (case hr => first | (go_simp; done) | (go_simp; rfl)); intro gb112 hg w22 hbox hb; have n0_ := rb HO106 hb; have n1_ := rb HO110 hb; have n2_ := bb BK101 hb; have n3_ := bs1 HB hb GE101; have n4_ := Aside0.mk (hbox); have n5_ := bz1 hg HB GE101; have n6_ := bz1 hg HB GE101; have n7_ := nl hg BK101; have n8_ := ng hg BK101; clear HO106; clear HO110; clear BK101; clear HB; have HO106 := n0_; have HO110 := n1_; have BK101 := n2_; have HB := n3_; have BK112 := n4_; have GW112 := n5_; have GE112 := n6_; have NB101_112 := n7_; have NB112_101 := n8_; clear n0_ n1_ n2_ n3_ n4_ n5_ n6_ n7_ n8_; clear hb hbox hg; have hnb23 := NB112_101.out; have hnc23 := NB101_112.out; have hcz24_0 : w22.cell? ⟨gb112, 0, none⟩ = some (.int .i64 0) := (blk_cell BK112.out 0).trans rfl; have hcz24_1 : w22.cell? ⟨gb112, 1, none⟩ = some (.slice none 0 0) := (blk_cell BK112.out 1).trans rfl; have hfz24_0 := blk_frozen BK112.out 0; have hfz24_1 := blk_frozen BK112.out 1; obtain ⟨Ao25, co25, eo25⟩ := Kd.R_slice HO110.out; subst eo25; have hcz26_0 : w22.cell? ⟨gb101, 0, none⟩ = some (.int .i64 a0_0) := (blk_cell BK101.out 0).trans rfl; have hcz26_1 : w22.cell? ⟨gb101, 1, none⟩ = some (.slice A0_1 l0_1.length c0_1) := (blk_cell BK101.out 1).trans rfl; have hfz26_0 := blk_frozen BK101.out 0; have hfz26_1 := blk_frozen BK101.out 1) | ((with_reducible refine gate_callee (f := 17) rfl ?_); refine goesL_ (some 35) rfl rfl Try.func17 (by kernel_rfl) rfl #[.agg #[.int .i64 a0_0, .slice A0_1 l0_1.length c0_1]] rfl (by (try simp only [List.map_toArray, List.map_cons, List.map_nil]); first | done | rfl | (simp only [List.length_drop, List.length_take]; rfl)) ?_; (with_reducible refine (laws_toGraph.calls k a0_0 _ _ l0_1 t113 t114 _ ?side1 ?side2 A12.out).mono ?_); (case side1 => exact Kd.C_below HR0_1.out (by repeat (first | (with_reducible first | exact HB.out | apply below_alloc | apply pw_below_drewN | apply below_drew1 | refine below_set ?_ GE101.out | refine below_set ?_ GE112.out) | exact HB.out))); (case side2 => exact HC0_1.out); rintro e w27 ⟨v115, rfl, ho0, hb⟩; refine ⟨_, rfl, ?_⟩; have n0_ := Aside0.mk (Kd.R_elder' (by (with_reducible repeat (first | apply Kd.R_alloc | apply Kd.R_drewN | apply Kd.R_drew)); exact (rf HO106 BK112)) (Kd.R_base ho0) hb); have n1_ := Aside0.mk (Kd.R_elder' (by (with_reducible repeat (first | apply Kd.R_alloc | apply Kd.R_drewN | apply Kd.R_drew)); exact (rf HO110 BK112)) (Kd.R_base ho0) hb); have n2_ := Aside0.mk (Kd.R_lower (Kd.R_new' (Kd.R_new' ho0 (Kd.R_lt (by (with_reducible repeat (first | apply Kd.R_alloc | apply Kd.R_drewN | apply Kd.R_drew)); exact (rf HO106 BK112)))) (Kd.R_lt (by (with_reducible repeat (first | apply Kd.R_alloc | apply Kd.R_drewN | apply Kd.R_drew)); exact (rf HO110 BK112)))) (below_size (by repeat (first | (with_reducible first | exact HB.out | apply below_alloc | apply pw_below_drewN | apply below_drew1 | refine below_set ?_ GE101.out | refine below_set ?_ GE112.out) | exact HB.out)))); have n3_ := Aside0.mk (blk_below (dq BK101 NB101_112) hb); have n4_ := Aside0.mk (blk_below (g := gb112) (o := .cells #[.int .i64 t107, .slice Ao25 t108.length co25] 29 (0, 0)) (by (with_reducible repeat (first | refine blk_drewN ?_ _ | refine blk_drew ?_ | refine blk_alloc ?_ _)); exact bp2 BK112.out) hb); have n5_ := bs2 HB hb GE101 GE112; clear HO106; clear HO110; clear BK101; clear BK112; clear HB; have HO106 := n0_; have HO110 := n1_; have HO116 := n2_; have BK101 := n3_; have BK112 := n4_; have HB := n5_; clear n0_ n1_ n2_ n3_ n4_ n5_; (try clear hb); (try clear hb2); (try clear hk); (try clear hi); (try clear ho0)) | ((with_reducible refine gate_dst (N := 12) rfl ?_); refine box_event ?hg (N := 12) ?hd (cs := #[.int .i64 0, .slice none 0 0]) (t := 29) ?hr ?_; (case hd => rfl); (case hg => rfl); (case hr => first | (go_simp; done) | (go_simp; rfl)); intro gb117 hg w28 hbox hb; have n0_ := rb HO106 hb; have n1_ := rb HO110 hb; have n2_ := rb HO116 hb; have n3_ := bb BK101 hb; have n4_ := bb BK112 hb; have n5_ := bs2 HB hb GE101 GE112; have n6_ := Aside0.mk (hbox); have n7_ := bz2 hg HB GE101 GE112; have n8_ := bz2 hg HB GE101 GE112; have n9_ := nl hg BK101; have n10_ := ng hg BK101; have n11_ := nl hg BK112; have n12_ := ng hg BK112; clear HO106; clear HO110; clear HO116; clear BK101; clear BK112; clear HB; have HO106 := n0_; have HO110 := n1_; have HO116 := n2_; have BK101 := n3_; have BK112 := n4_; have HB := n5_; have BK117 := n6_; have GW117 := n7_; have GE117 := n8_; have NB101_117 := n9_; have NB117_101 := n10_; have NB112_117 := n11_; have NB117_112 := n12_; clear n0_ n1_ n2_ n3_ n4_ n5_ n6_ n7_ n8_ n9_ n10_ n11_ n12_; clear hb hbox hg; have hnb29 := NB117_101.out; have hnc29 := NB101_117.out; have hnb30 := NB117_112.out; have hnc30 := NB112_117.out; have hcz31_0 : w28.cell? ⟨gb117, 0, none⟩ = some (.int .i64 0) := (blk_cell BK117.out 0).trans rfl; have hcz31_1 : w28.cell? ⟨gb117, 1, none⟩ = some (.slice none 0 0) := (blk_cell BK117.out 1).trans rfl; have hfz31_0 := blk_frozen BK117.out 0; have hfz31_1 := blk_frozen BK117.out 1; obtain ⟨Ao32, co32, eo32⟩ := Kd.R_slice HO116.out; subst eo32) | ((with_reducible refine gate_callee (f := 36) rfl ?_); refine goesL_ (some 41) rfl rfl Try.func36 (by kernel_rfl) rfl #[.agg #[.int .i64 t113, .slice Ao32 t114.length co32], .int .i64 a1, .int .i64 a2, .int .i64 a3] rfl (by (try simp only [List.map_toArray, List.map_cons, List.map_nil]); first | done | rfl | (simp only [List.length_drop, List.length_take]; rfl)) ?_; (with_reducible refine (impl_GraphIf.calls t113 _ _ t114 a1 a2 a3 t118 t119 t122 _ ?side1 ?side2 A13.out).mono ?_); (case side1 => refine (Kd.R_reads' (e := 79) (base := w.heap.size) (ok := fun k_ => ((True ∧ some k_ ≠ (.slice Ao20 t104.length co20 : Value).ownBlock) ∧ some k_ ≠ (.slice Ao25 t108.length co25 : Value).ownBlock)) (n := t114.length) (c := co32) ?_).2.2; exact (by (with_reducible repeat (first | apply Kd.R_alloc | apply Kd.R_drewN | apply Kd.R_drew)); exact (rf HO116 BK117))); (case side2 => exact (Kd.R_reads' HO116.out).2.1); rintro e w33 ⟨v120, rfl, ho0, hb⟩; refine ⟨_, rfl, ?_⟩; have n0_ := Aside0.mk (Kd.R_elder' (by (with_reducible repeat (first | apply Kd.R_alloc | apply Kd.R_drewN | apply Kd.R_drew)); exact (rf HO106 BK117)) (Kd.R_base ho0) hb); have n1_ := Aside0.mk (Kd.R_elder' (by (with_reducible repeat (first | apply Kd.R_alloc | apply Kd.R_drewN | apply Kd.R_drew)); exact (rf HO110 BK117)) (Kd.R_base ho0) hb); have n2_ := Aside0.mk (Kd.R_elder' (by (with_reducible repeat (first | apply Kd.R_alloc | apply Kd.R_drewN | apply Kd.R_drew)); exact (rf HO116 BK117)) (Kd.R_base ho0) hb); have n3_ := Aside0.mk (Kd.R_lower (Kd.R_new' (Kd.R_new' (Kd.R_new' ho0 (Kd.R_lt (by (with_reducible repeat (first | apply Kd.R_alloc | apply Kd.R_drewN | apply Kd.R_drew)); exact (rf HO106 BK117)))) (Kd.R_lt (by (with_reducible repeat (first | apply Kd.R_alloc | apply Kd.R_drewN | apply Kd.R_drew)); exact (rf HO110 BK117)))) (Kd.R_lt (by (with_reducible repeat (first | apply Kd.R_alloc | apply Kd.R_drewN | apply Kd.R_drew)); exact (rf HO116 BK117)))) (below_size (by repeat (first | (with_reducible first | exact HB.out | apply below_alloc | apply pw_below_drewN | apply below_drew1 | refine below_set ?_ GE101.out | refine below_set ?_ GE112.out | refine below_set ?_ GE117.out) | exact HB.out)))); have n4_ := Aside0.mk (blk_below (dq BK101 NB101_117) hb); have n5_ := Aside0.mk (blk_below (dq BK112 NB112_117) hb); have n6_ := Aside0.mk (blk_below (g := gb117) (o := .cells #[.int .i64 t113, .slice Ao32 t114.length co32] 29 (0, 0)) (by (with_reducible repeat (first | refine blk_drewN ?_ _ | refine blk_drew ?_ | refine blk_alloc ?_ _)); exact bp2 BK117.out) hb); have n7_ := bs3 HB hb GE101 GE112 GE117; clear HO106; clear HO110; clear HO116; clear BK101; clear BK112; clear BK117; clear HB; have HO106 := n0_; have HO110 := n1_; have HO116 := n2_; have HO121 := n3_; have BK101 := n4_; have BK112 := n5_; have BK117 := n6_; have HB := n7_; clear n0_ n1_ n2_ n3_ n4_ n5_ n6_ n7_; (try clear hb); (try clear hb2); (try clear hk); (try clear hi); (try clear ho0)) | ((with_reducible refine gate_dst (N := 13) rfl ?_); refine box_event ?hg (N := 13) ?hd (cs := #[.int .i64 0, .slice none 0 0]) (t := 29) ?hr ?_; (case hd => rfl); (case hg => rfl); (case hr => first | (go_simp; done) | (go_simp; rfl)); intro gb123 hg w34 hbox hb; have n0_ := rb HO106 hb; have n1_ := rb HO110 hb; have n2_ := rb HO116 hb; have n3_ := rb HO121 hb; have n4_ := bb BK101 hb; have n5_ := bb BK112 hb; have n6_ := bb BK117 hb; have n7_ := bs3 HB hb GE101 GE112 GE117; have n8_ := Aside0.mk (hbox); have n9_ := bz3 hg HB GE101 GE112 GE117; have n10_ := bz3 hg HB GE101 GE112 GE117; have n11_ := nl hg BK101; have n12_ := ng hg BK101; have n13_ := nl hg BK112; have n14_ := ng hg BK112; have n15_ := nl hg BK117; have n16_ := ng hg BK117; clear HO106; clear HO110; clear HO116; clear HO121; clear BK101; clear BK112; clear BK117; clear HB; have HO106 := n0_; have HO110 := n1_; have HO116 := n2_; have HO121 := n3_; have BK101 := n4_; have BK112 := n5_; have BK117 := n6_; have HB := n7_; have BK123 := n8_; have GW123 := n9_; have GE123 := n10_; have NB101_123 := n11_; have NB123_101 := n12_; have NB112_123 := n13_; have NB123_112 := n14_; have NB117_123 := n15_; have NB123_117 := n16_; clear n0_ n1_ n2_ n3_ n4_ n5_ n6_ n7_ n8_ n9_ n10_ n11_ n12_ n13_ n14_ n15_ n16_; clear hb hbox hg; have hnb35 := NB123_101.out; have hnc35 := NB101_123.out; have hnb36 := NB123_112.out; have hnc36 := NB112_123.out; have hnb37 := NB123_117.out; have hnc37 := NB117_123.out; have hcz38_0 : w34.cell? ⟨gb123, 0, none⟩ = some (.int .i64 0) := (blk_cell BK123.out 0).trans rfl; have hcz38_1 : w34.cell? ⟨gb123, 1, none⟩ = some (.slice none 0 0) := (blk_cell BK123.out 1).trans rfl; have hfz38_0 := blk_frozen BK123.out 0; have hfz38_1 := blk_frozen BK123.out 1; obtain ⟨Ao39, co39, eo39⟩ := Kd.R_slice HO121.out; subst eo39))
  (try simp only [Act.put, List.setIfInBounds_toArray, List.set_cons_zero, List.set_cons_succ])
  go_cut [52] (fun v52 wc => ∃ (kq : Nat) (x52_13 : Bool), v52 = .bool x52_13 ∧ Aside0 (laws_FnExactGraphIf.j0 kq a1 a2 a3 t111 t122 x52_13 a0_0 l0_1 t107 t108 t113 t114 t118 t119 = some r) ∧ Aside0 (kq ≤ k) ∧ Aside0 (Kd.R k79 79 wc w.heap.size (fun k_ => some k_ ≠ ((.slice Ao32 t114.length co32) : Value).ownBlock ∧ some k_ ≠ ((.slice Ao39 t119.length co39) : Value).ownBlock) (.slice Ao25 t108.length co25) t108) ∧ Aside0 (Kd.R k79 79 wc w.heap.size (fun k_ => some k_ ≠ ((.slice Ao25 t108.length co25) : Value).ownBlock ∧ some k_ ≠ ((.slice Ao39 t119.length co39) : Value).ownBlock) (.slice Ao32 t114.length co32) t114) ∧ Aside0 (Kd.R k79 79 wc w.heap.size (fun k_ => some k_ ≠ ((.slice Ao25 t108.length co25) : Value).ownBlock ∧ some k_ ≠ ((.slice Ao32 t114.length co32) : Value).ownBlock) (.slice Ao39 t119.length co39) t119) ∧ Aside0 (wc.heap[gb101]? = some (.cells #[.int .i64 a0_0, (.slice A0_1 l0_1.length c0_1)] 24 (0, 0))) ∧ Aside0 (wc.heap[gb112]? = some (.cells #[.int .i64 t107, (.slice Ao25 t108.length co25)] 29 (0, 0))) ∧ Aside0 (wc.heap[gb117]? = some (.cells #[.int .i64 t113, (.slice Ao32 t114.length co32)] 29 (0, 0))) ∧ Aside0 (wc.heap[gb123]? = some (.cells #[.int .i64 t118, (.slice Ao39 t119.length co39)] 29 (0, 0))) ∧ Aside0 (Below w.heap.size w wc))
  case first =>
   have H := HC14.out; clear HC14
   replace H := Option.bind_eq_some_iff.mp H
   obtain ⟨t124, A400, H⟩ := H
   replace H : (if t124 = true then (laws_FnExactGraphIf.j0 k a1 a2 a3 t111 t122 (t122 != t111) a0_0 l0_1 t107 t108 t113 t114 t118 t119) else (laws_FnExactGraphIf.j0 k a1 a2 a3 t111 t122 true a0_0 l0_1 t107 t108 t113 t114 t118 t119)) = some r := H
   have A40 := Aside0.mk A400; clear A400
   by_cases c41 : t124 = true
   ·subst c41
    have H1 : (laws_FnExactGraphIf.j0 k a1 a2 a3 t111 t122 (t122 != t111) a0_0 l0_1 t107 t108 t113 t114 t118 t119) = some r := by rw [if_pos rfl] at H; exact H
    clear H; have H := H1; clear H1
    have H' := Aside0.mk H
    clear H; have hnb42 := NB123_101.out; have hnc42 := NB101_123.out; have hnb43 := NB123_112.out; have hnc43 := NB112_123.out; have hnb44 := NB123_117.out; have hnc44 := NB117_123.out; have hcz45_0 : w34.cell? ⟨gb123, 0, none⟩ = some (.int .i64 0) := (blk_cell BK123.out 0).trans rfl; have hcz45_1 : w34.cell? ⟨gb123, 1, none⟩ = some (.slice none 0 0) := (blk_cell BK123.out 1).trans rfl; have hfz45_0 := blk_frozen BK123.out 0; have hfz45_1 := blk_frozen BK123.out 1; have hnb46 := NB112_101.out; have hnc46 := NB101_112.out; have hnb47 := NB112_117.out; have hnc47 := NB117_112.out; have hcz48_0 : w34.cell? ⟨gb112, 0, none⟩ = some (.int .i64 t107) := (blk_cell BK112.out 0).trans rfl; have hcz48_1 : w34.cell? ⟨gb112, 1, none⟩ = some (.slice Ao25 t108.length co25) := (blk_cell BK112.out 1).trans rfl; have hfz48_0 := blk_frozen BK112.out 0; have hfz48_1 := blk_frozen BK112.out 1
    go_wp2_with (first | ((with_reducible refine gate_callee (f := 19) rfl ?_); refine goesL_ (some 46) rfl rfl Try.func19 (by kernel_rfl) rfl #[.agg #[.int .i64 t118, .slice Ao39 t119.length co39], .agg #[.int .i64 t107, .slice Ao25 t108.length co25]] rfl (by (try simp only [List.map_toArray, List.map_cons, List.map_nil]); first | done | rfl | (simp only [List.length_drop, List.length_take]; rfl)) ?_; (with_reducible refine (laws_eqGraph.calls k t118 _ _ t119 t107 _ _ t108 true _ ?side1 ?side2 ?side3 ?side4 A40.out).mono ?_); (case side1 => refine (Kd.R_reads' (e := 79) (base := w.heap.size) (ok := fun k_ => (((True ∧ some k_ ≠ (.slice Ao20 t104.length co20 : Value).ownBlock) ∧ some k_ ≠ (.slice Ao25 t108.length co25 : Value).ownBlock) ∧ some k_ ≠ (.slice Ao32 t114.length co32 : Value).ownBlock)) (n := t119.length) (c := co39) ?_).2.2; exact (by (with_reducible repeat (first | apply Kd.R_alloc | apply Kd.R_drewN | apply Kd.R_drew)); exact (rf HO121 BK123))); (case side2 => exact (Kd.R_reads' HO121.out).2.1); (case side3 => refine (Kd.R_reads' (e := 79) (base := w.heap.size) (ok := fun k_ => (((True ∧ some k_ ≠ (.slice Ao20 t104.length co20 : Value).ownBlock) ∧ some k_ ≠ (.slice Ao32 t114.length co32 : Value).ownBlock) ∧ some k_ ≠ (.slice Ao39 t119.length co39 : Value).ownBlock)) (n := t108.length) (c := co25) ?_).2.2; exact (by (with_reducible repeat (first | apply Kd.R_alloc | apply Kd.R_drewN | apply Kd.R_drew)); exact (rf HO110 BK123))); (case side4 => exact (Kd.R_reads' HO110.out).2.1); rintro e w49 ⟨rfl, hb⟩; refine ⟨_, rfl, ?_⟩; have n0_ := rbf HO106 BK123 hb; have n1_ := rbf HO110 BK123 hb; have n2_ := rbf HO116 BK123 hb; have n3_ := rbf HO121 BK123 hb; have n4_ := Aside0.mk (blk_below (dq BK101 NB101_123) hb); have n5_ := Aside0.mk (blk_below (dq BK112 NB112_123) hb); have n6_ := Aside0.mk (blk_below (dq BK117 NB117_123) hb); have n7_ := Aside0.mk (blk_below (g := gb123) (o := .cells #[.int .i64 t118, .slice Ao39 t119.length co39] 29 (0, 0)) (by (with_reducible repeat (first | refine blk_drewN ?_ _ | refine blk_drew ?_ | refine blk_alloc ?_ _)); exact bp2 BK123.out) hb); have n8_ := bs4 HB hb GE101 GE112 GE117 GE123; clear HO106; clear HO110; clear HO116; clear HO121; clear BK101; clear BK112; clear BK117; clear BK123; clear HB; have HO106 := n0_; have HO110 := n1_; have HO116 := n2_; have HO121 := n3_; have BK101 := n4_; have BK112 := n5_; have BK117 := n6_; have BK123 := n7_; have HB := n8_; clear n0_ n1_ n2_ n3_ n4_ n5_ n6_ n7_ n8_; (try clear hb); (try clear hb2); (try clear hk); (try clear hi)))
    go_meet
    case rel => exact ⟨_, ((t122 != t111)), (by first | rfl | (simp; done) | (simp [*]; done)), H', ⟨by first | omega | exact Nat.le_refl _⟩, ⟨by (with_reducible repeat (first | apply Kd.R_alloc | apply Kd.R_drewN | apply Kd.R_drew)); exact Kd.R_mono HO110.out (fun _ hk => ⟨hk.1.2, hk.2⟩)⟩, ⟨by (with_reducible repeat (first | apply Kd.R_alloc | apply Kd.R_drewN | apply Kd.R_drew)); exact Kd.R_mono HO116.out (fun _ hk => ⟨hk.1.2, hk.2⟩)⟩, ⟨by (with_reducible repeat (first | apply Kd.R_alloc | apply Kd.R_drewN | apply Kd.R_drew)); exact Kd.R_mono HO121.out (fun _ hk => ⟨hk.1.2, hk.2⟩)⟩, ⟨by (with_reducible repeat (first | refine blk_drewN ?_ _ | refine blk_drew ?_ | refine blk_alloc ?_ _)); exact BK101.out⟩, ⟨by (with_reducible repeat (first | refine blk_drewN ?_ _ | refine blk_drew ?_ | refine blk_alloc ?_ _)); exact BK112.out⟩, ⟨by (with_reducible repeat (first | refine blk_drewN ?_ _ | refine blk_drew ?_ | refine blk_alloc ?_ _)); exact BK117.out⟩, ⟨by (with_reducible repeat (first | refine blk_drewN ?_ _ | refine blk_drew ?_ | refine blk_alloc ?_ _)); exact BK123.out⟩, ⟨by repeat (first | (with_reducible first | exact HB.out | apply below_alloc | apply pw_below_drewN | apply below_drew1 | refine below_set ?_ GE101.out | refine below_set ?_ GE112.out | refine below_set ?_ GE117.out | refine below_set ?_ GE123.out) | exact HB.out)⟩⟩
   ·replace c41 := Bool.eq_false_iff.mpr c41
    subst c41
    have H1 : (laws_FnExactGraphIf.j0 k a1 a2 a3 t111 t122 true a0_0 l0_1 t107 t108 t113 t114 t118 t119) = some r := by rw [if_neg (show ¬ (false = true) by decide)] at H; exact H
    clear H; have H := H1; clear H1
    have H' := Aside0.mk H
    clear H; have hnb50 := NB123_101.out; have hnc50 := NB101_123.out; have hnb51 := NB123_112.out; have hnc51 := NB112_123.out; have hnb52 := NB123_117.out; have hnc52 := NB117_123.out; have hcz53_0 : w34.cell? ⟨gb123, 0, none⟩ = some (.int .i64 0) := (blk_cell BK123.out 0).trans rfl; have hcz53_1 : w34.cell? ⟨gb123, 1, none⟩ = some (.slice none 0 0) := (blk_cell BK123.out 1).trans rfl; have hfz53_0 := blk_frozen BK123.out 0; have hfz53_1 := blk_frozen BK123.out 1; have hnb54 := NB112_101.out; have hnc54 := NB101_112.out; have hnb55 := NB112_117.out; have hnc55 := NB117_112.out; have hcz56_0 : w34.cell? ⟨gb112, 0, none⟩ = some (.int .i64 t107) := (blk_cell BK112.out 0).trans rfl; have hcz56_1 : w34.cell? ⟨gb112, 1, none⟩ = some (.slice Ao25 t108.length co25) := (blk_cell BK112.out 1).trans rfl; have hfz56_0 := blk_frozen BK112.out 0; have hfz56_1 := blk_frozen BK112.out 1
    go_wp2_with (first | ((with_reducible refine gate_callee (f := 19) rfl ?_); refine goesL_ (some 46) rfl rfl Try.func19 (by kernel_rfl) rfl #[.agg #[.int .i64 t118, .slice Ao39 t119.length co39], .agg #[.int .i64 t107, .slice Ao25 t108.length co25]] rfl (by (try simp only [List.map_toArray, List.map_cons, List.map_nil]); first | done | rfl | (simp only [List.length_drop, List.length_take]; rfl)) ?_; (with_reducible refine (laws_eqGraph.calls k t118 _ _ t119 t107 _ _ t108 false _ ?side1 ?side2 ?side3 ?side4 A40.out).mono ?_); (case side1 => refine (Kd.R_reads' (e := 79) (base := w.heap.size) (ok := fun k_ => (((True ∧ some k_ ≠ (.slice Ao20 t104.length co20 : Value).ownBlock) ∧ some k_ ≠ (.slice Ao25 t108.length co25 : Value).ownBlock) ∧ some k_ ≠ (.slice Ao32 t114.length co32 : Value).ownBlock)) (n := t119.length) (c := co39) ?_).2.2; exact (by (with_reducible repeat (first | apply Kd.R_alloc | apply Kd.R_drewN | apply Kd.R_drew)); exact (rf HO121 BK123))); (case side2 => exact (Kd.R_reads' HO121.out).2.1); (case side3 => refine (Kd.R_reads' (e := 79) (base := w.heap.size) (ok := fun k_ => (((True ∧ some k_ ≠ (.slice Ao20 t104.length co20 : Value).ownBlock) ∧ some k_ ≠ (.slice Ao32 t114.length co32 : Value).ownBlock) ∧ some k_ ≠ (.slice Ao39 t119.length co39 : Value).ownBlock)) (n := t108.length) (c := co25) ?_).2.2; exact (by (with_reducible repeat (first | apply Kd.R_alloc | apply Kd.R_drewN | apply Kd.R_drew)); exact (rf HO110 BK123))); (case side4 => exact (Kd.R_reads' HO110.out).2.1); rintro e w57 ⟨rfl, hb⟩; refine ⟨_, rfl, ?_⟩; have n0_ := rbf HO106 BK123 hb; have n1_ := rbf HO110 BK123 hb; have n2_ := rbf HO116 BK123 hb; have n3_ := rbf HO121 BK123 hb; have n4_ := Aside0.mk (blk_below (dq BK101 NB101_123) hb); have n5_ := Aside0.mk (blk_below (dq BK112 NB112_123) hb); have n6_ := Aside0.mk (blk_below (dq BK117 NB117_123) hb); have n7_ := Aside0.mk (blk_below (g := gb123) (o := .cells #[.int .i64 t118, .slice Ao39 t119.length co39] 29 (0, 0)) (by (with_reducible repeat (first | refine blk_drewN ?_ _ | refine blk_drew ?_ | refine blk_alloc ?_ _)); exact bp2 BK123.out) hb); have n8_ := bs4 HB hb GE101 GE112 GE117 GE123; clear HO106; clear HO110; clear HO116; clear HO121; clear BK101; clear BK112; clear BK117; clear BK123; clear HB; have HO106 := n0_; have HO110 := n1_; have HO116 := n2_; have HO121 := n3_; have BK101 := n4_; have BK112 := n5_; have BK117 := n6_; have BK123 := n7_; have HB := n8_; clear n0_ n1_ n2_ n3_ n4_ n5_ n6_ n7_ n8_; (try clear hb); (try clear hb2); (try clear hk); (try clear hi)))
    go_meet
    case rel => exact ⟨_, (true), (by first | rfl | (simp; done) | (simp [*]; done)), H', ⟨by first | omega | exact Nat.le_refl _⟩, ⟨by (with_reducible repeat (first | apply Kd.R_alloc | apply Kd.R_drewN | apply Kd.R_drew)); exact Kd.R_mono HO110.out (fun _ hk => ⟨hk.1.2, hk.2⟩)⟩, ⟨by (with_reducible repeat (first | apply Kd.R_alloc | apply Kd.R_drewN | apply Kd.R_drew)); exact Kd.R_mono HO116.out (fun _ hk => ⟨hk.1.2, hk.2⟩)⟩, ⟨by (with_reducible repeat (first | apply Kd.R_alloc | apply Kd.R_drewN | apply Kd.R_drew)); exact Kd.R_mono HO121.out (fun _ hk => ⟨hk.1.2, hk.2⟩)⟩, ⟨by (with_reducible repeat (first | refine blk_drewN ?_ _ | refine blk_drew ?_ | refine blk_alloc ?_ _)); exact BK101.out⟩, ⟨by (with_reducible repeat (first | refine blk_drewN ?_ _ | refine blk_drew ?_ | refine blk_alloc ?_ _)); exact BK112.out⟩, ⟨by (with_reducible repeat (first | refine blk_drewN ?_ _ | refine blk_drew ?_ | refine blk_alloc ?_ _)); exact BK117.out⟩, ⟨by (with_reducible repeat (first | refine blk_drewN ?_ _ | refine blk_drew ?_ | refine blk_alloc ?_ _)); exact BK123.out⟩, ⟨by repeat (first | (with_reducible first | exact HB.out | apply below_alloc | apply pw_below_drewN | apply below_drew1 | refine below_set ?_ GE101.out | refine below_set ?_ GE112.out | refine below_set ?_ GE117.out | refine below_set ?_ GE123.out) | exact HB.out)⟩⟩
  case rest =>
   clear HC14
   (try clear c1); (try clear c2); (try clear p2); (try clear c3); (try clear c4); (try clear c5); (try clear c6); (try clear c6b0); (try clear c9); (try clear c15); (try clear c17); (try clear c19); (try clear c23); (try clear c29); (try clear c30); (try clear c35); (try clear c36); (try clear c37); (try clear c41); (try clear c42); (try clear c43); (try clear c44); (try clear c46); (try clear c47); (try clear c50); (try clear c51); (try clear c52); (try clear c54); (try clear c55); (try clear hcz16_0); (try clear hcz16_1); (try clear hcz18_0); (try clear hcz18_1); (try clear hcz24_0); (try clear hcz24_1); (try clear hcz26_0); (try clear hcz26_1); (try clear hcz31_0); (try clear hcz31_1); (try clear hcz38_0); (try clear hcz38_1); (try clear hcz45_0); (try clear hcz45_1); (try clear hcz48_0); (try clear hcz48_1); (try clear hcz53_0); (try clear hcz53_1); (try clear hcz56_0); (try clear hcz56_1); (try clear hcz8_0); (try clear hcz8_1); (try clear hfz16_0); (try clear hfz16_1); (try clear hfz18_0); (try clear hfz18_1); (try clear hfz24_0); (try clear hfz24_1); (try clear hfz26_0); (try clear hfz26_1); (try clear hfz31_0); (try clear hfz31_1); (try clear hfz38_0); (try clear hfz38_1); (try clear hfz45_0); (try clear hfz45_1); (try clear hfz48_0); (try clear hfz48_1); (try clear hfz53_0); (try clear hfz53_1); (try clear hfz56_0); (try clear hfz56_1); (try clear hfz8_0); (try clear hfz8_1)
   obtain ⟨kq, x52_13, rfl, HA, HJ13, HO_113001, HO_118001, HO_124001, BK101, BK112, BK117, BK123, HB⟩ := hcut
   cases kq with
      | zero => exact absurd HA.out (by simp [laws_FnExactGraphIf.j0])
      | succ kj13 =>
    have H := HA.out; clear HA
    simp only [laws_FnExactGraphIf.j0] at H
    by_cases c58 : x52_13 = true
    ·subst c58
     have H1 : (some false) = some r := by rw [if_pos rfl] at H; exact H
     clear H; have H := H1; clear H1
     exact absurd ((Option.some.inj H).trans HT.out) (by decide)
    ·replace c58 := Bool.eq_false_iff.mpr c58
     subst c58
     have H1 : ((laws_toGraph.f kj13 a0_0 l0_1).bind fun bt125 => ((laws_eqGraph.f kj13 t113 t114 bt125.1 bt125.2).bind fun t129 => (if t129 = true then ((laws_markGraph.f kj13 t113 t114 1).bind fun bt130 => (if bt130.1 < 0 then (laws_FnExactGraphIf.j1 kj13 a1 a2 a3 t111 true a0_0 l0_1 t107 t108 t118 t119) else ((laws_eqGraph.f kj13 t118 t119 t107 t108).bind fun t132 => (if t132 = true then (laws_FnExactGraphIf.j1 kj13 a1 a2 a3 t111 (t122 != t111) a0_0 l0_1 t107 t108 t118 t119) else (laws_FnExactGraphIf.j1 kj13 a1 a2 a3 t111 true a0_0 l0_1 t107 t108 t118 t119))))) else (some false)))) = some r := by rw [if_neg (show ¬ (false = true) by decide)] at H; exact H
     clear H; have H := H1; clear H1
     replace H := Option.bind_eq_some_iff.mp H
     obtain ⟨⟨t125, t126⟩, A590, H⟩ := H
     replace H : ((laws_eqGraph.f kj13 t113 t114 t125 t126).bind fun t129 => (if t129 = true then ((laws_markGraph.f kj13 t113 t114 1).bind fun bt130 => (if bt130.1 < 0 then (laws_FnExactGraphIf.j1 kj13 a1 a2 a3 t111 true a0_0 l0_1 t107 t108 t118 t119) else ((laws_eqGraph.f kj13 t118 t119 t107 t108).bind fun t132 => (if t132 = true then (laws_FnExactGraphIf.j1 kj13 a1 a2 a3 t111 (t122 != t111) a0_0 l0_1 t107 t108 t118 t119) else (laws_FnExactGraphIf.j1 kj13 a1 a2 a3 t111 true a0_0 l0_1 t107 t108 t118 t119))))) else (some false))) = some r := H
     have A59 := Aside0.mk A590; clear A590
     replace H := Option.bind_eq_some_iff.mp H
     obtain ⟨t129, A600, H⟩ := H
     replace H : (if t129 = true then ((laws_markGraph.f kj13 t113 t114 1).bind fun bt130 => (if bt130.1 < 0 then (laws_FnExactGraphIf.j1 kj13 a1 a2 a3 t111 true a0_0 l0_1 t107 t108 t118 t119) else ((laws_eqGraph.f kj13 t118 t119 t107 t108).bind fun t132 => (if t132 = true then (laws_FnExactGraphIf.j1 kj13 a1 a2 a3 t111 (t122 != t111) a0_0 l0_1 t107 t108 t118 t119) else (laws_FnExactGraphIf.j1 kj13 a1 a2 a3 t111 true a0_0 l0_1 t107 t108 t118 t119))))) else (some false)) = some r := H
     have A60 := Aside0.mk A600; clear A600
     by_cases c61 : t129 = true
     ·subst c61
      have H1 : ((laws_markGraph.f kj13 t113 t114 1).bind fun bt130 => (if bt130.1 < 0 then (laws_FnExactGraphIf.j1 kj13 a1 a2 a3 t111 true a0_0 l0_1 t107 t108 t118 t119) else ((laws_eqGraph.f kj13 t118 t119 t107 t108).bind fun t132 => (if t132 = true then (laws_FnExactGraphIf.j1 kj13 a1 a2 a3 t111 (t122 != t111) a0_0 l0_1 t107 t108 t118 t119) else (laws_FnExactGraphIf.j1 kj13 a1 a2 a3 t111 true a0_0 l0_1 t107 t108 t118 t119))))) = some r := by rw [if_pos rfl] at H; exact H
      clear H; have H := H1; clear H1
      replace H := Option.bind_eq_some_iff.mp H
      obtain ⟨⟨t130, t131⟩, A620, H⟩ := H
      replace H : (if t130 < 0 then (laws_FnExactGraphIf.j1 kj13 a1 a2 a3 t111 true a0_0 l0_1 t107 t108 t118 t119) else ((laws_eqGraph.f kj13 t118 t119 t107 t108).bind fun t132 => (if t132 = true then (laws_FnExactGraphIf.j1 kj13 a1 a2 a3 t111 (t122 != t111) a0_0 l0_1 t107 t108 t118 t119) else (laws_FnExactGraphIf.j1 kj13 a1 a2 a3 t111 true a0_0 l0_1 t107 t108 t118 t119)))) = some r := H
      have A62 := Aside0.mk A620; clear A620; have HC63 := Aside0.mk H; clear H
      try go_wp2
      have n0_ := Aside0.mk (Kd.R_drew HO_113001.out); have n1_ := Aside0.mk (Kd.R_drew HO_118001.out); have n2_ := Aside0.mk (Kd.R_drew HO_124001.out); have n3_ := Aside0.mk (blk_drew BK101.out); have n4_ := Aside0.mk (blk_drew BK112.out); have n5_ := Aside0.mk (blk_drew BK117.out); have n6_ := Aside0.mk (blk_drew BK123.out); have n7_ := Aside0.mk (below_drew1 HB.out); clear HO_113001; clear HO_118001; clear HO_124001; clear BK101; clear BK112; clear BK117; clear BK123; clear HB; have HO_113001 := n0_; have HO_118001 := n1_; have HO_124001 := n2_; have BK101 := n3_; have BK112 := n4_; have BK117 := n5_; have BK123 := n6_; have HB := n7_; clear n0_ n1_ n2_ n3_ n4_ n5_ n6_ n7_
      refine start_ (n := 5) (S := fun w' => w'.cell? ⟨gb117, 0, none⟩ = some (.int .i64 t113) ∧ w'.cell? ⟨gb117, 1, none⟩ = some (.slice Ao32 t114.length co32) ∧ w'.cell? ⟨gb101, 0, none⟩ = some (.int .i64 a0_0) ∧ w'.cell? ⟨gb101, 1, none⟩ = some (.slice A0_1 l0_1.length c0_1)) (ds := []) #[false, false, false, false, false] (by kernel_rfl) rfl rfl ⟨(blk_cell BK117.out 0).trans rfl, (blk_cell BK117.out 1).trans rfl, (blk_cell BK101.out 0).trans rfl, (blk_cell BK101.out 1).trans rfl⟩ (fun hHeld => ?_)
      generalize wc.drew = w64 at HO_113001 HO_118001 HO_124001 BK101 BK112 BK117 BK123 HB hHeld ⊢
      refine take_ (i := 0) (N := some 53) (v := ?_) (a' := ?_) #[true, false, false, false, false] rfl rfl (by kernel_rfl) (fun _ _ _ h => h) (Or.inl ⟨by rfl, ?_⟩) hHeld ?_ ?_
      rotate_left
      ·rintro w' ⟨s0, s1, s2, s3⟩
       go_simp
       with_reducible rfl
      rotate_left
      ·simp only [Act.put, List.setIfInBounds_toArray, List.set_cons_zero, List.set_cons_succ, i64_w, i32_w]
       rfl
      refine take_ (i := 1) (N := some 54) (v := ?_) (a' := ?_) #[true, true, false, false, false] rfl rfl (by kernel_rfl) (fun _ _ _ h => h) (Or.inl ⟨by rfl, ?_⟩) hHeld ?_ ?_
      rotate_left
      ·rintro w' ⟨s0, s1, s2, s3⟩
       go_simp
       with_reducible rfl
      rotate_left
      ·simp only [Act.put, List.setIfInBounds_toArray, List.set_cons_zero, List.set_cons_succ, i64_w, i32_w]
       rfl
      refine one_ (i := 2) (N := some 55) #[true, true, true, false, false] rfl rfl (by kernel_rfl) (by decide) (fun K hK => ?_)
      refine goes_ Try.func17 (by kernel_rfl) rfl #[.agg #[.int .i64 a0_0, .slice A0_1 l0_1.length c0_1]] (by rfl) rfl rfl (by (try simp only [List.map_toArray, List.map_cons, List.map_nil]); first | done | rfl | (simp only [List.length_drop, List.length_take]; rfl)) ?_
      with_reducible refine (laws_toGraph.calls kj13 a0_0 _ _ l0_1 t125 t126 _ ?side1 ?side2 A59.out).mono ?_
      (case side1 => repeat (first | exact (Kd.C_below HR0_1.out HB.out) | (with_reducible refine Kd.C_alloc ?_ _) | (with_reducible refine Kd.C_drewN ?_ _) | (with_reducible refine Kd.C_drew ?_)))
      (case side2 => exact HC0_1.out)
      rintro e w65 ⟨v127, rfl, ho0, hb⟩
      refine ⟨_, rfl, ?_⟩
      have n0_ := re HO_113001 (Kd.R_base ho0) hb; have n1_ := re HO_118001 (Kd.R_base ho0) hb; have n2_ := re HO_124001 (Kd.R_base ho0) hb
      have n3_ := Aside0.mk (Kd.R_lower (Kd.R_new' (Kd.R_new' (Kd.R_new' ho0 (Kd.R_lt (by (with_reducible repeat (first | apply Kd.R_alloc | apply Kd.R_drewN | apply Kd.R_drew)); exact HO_113001.out))) (Kd.R_lt (by (with_reducible repeat (first | apply Kd.R_alloc | apply Kd.R_drewN | apply Kd.R_drew)); exact HO_118001.out))) (Kd.R_lt (by (with_reducible repeat (first | apply Kd.R_alloc | apply Kd.R_drewN | apply Kd.R_drew)); exact HO_124001.out))) (below_size (by repeat (first | (with_reducible first | exact HB.out | apply below_alloc | apply pw_below_drewN | apply below_drew1 | refine below_set ?_ GE101.out | refine below_set ?_ GE112.out | refine below_set ?_ GE117.out | refine below_set ?_ GE123.out) | exact HB.out))))
      have n4_ := bb BK101 hb; have n5_ := bb BK112 hb; have n6_ := bb BK117 hb; have n7_ := bb BK123 hb; have n8_ := bs4 HB hb GE101 GE112 GE117 GE123; clear HO_113001; clear HO_118001; clear HO_124001; clear BK101; clear BK112; clear BK117; clear BK123; clear HB; have HO_113001 := n0_; have HO_118001 := n1_; have HO_124001 := n2_; have HO128 := n3_; have BK101 := n4_; have BK112 := n5_; have BK117 := n6_; have BK123 := n7_; have HB := n8_; clear n0_ n1_ n2_ n3_ n4_ n5_ n6_ n7_ n8_
      (try clear hb)
      (try clear hb2)
      (try clear hk)
      (try clear hi)
      (try clear ho0)
      obtain ⟨Ao66, co66, eo66⟩ := Kd.R_slice HO128.out
      (first | subst eo66 | (injection eo66 with f1_ f2_ f3_; have f4_ := f1_.symm; have f5_ := f3_.symm; clear f1_ f2_ f3_; subst f4_; subst f5_))
      refine hK.out _ _ ⟨(blk_cell BK117.out 0).trans rfl, (blk_cell BK117.out 1).trans rfl, (blk_cell BK101.out 0).trans rfl, (blk_cell BK101.out 1).trans rfl⟩ (fun hHeld => ?_)
      clear hK K
      refine norm_ (a' := ?_) ?_ ?_
      rotate_left
      ·show Act.put _ (some 55) _ = _
       simp only [Act.put, List.setIfInBounds_toArray, List.set_cons_zero, List.set_cons_succ, i64_w, i32_w]
       rfl
      refine one_ (i := 3) (N := some 56) #[true, true, true, true, false] rfl rfl (by kernel_rfl) (by decide) (fun K hK => ?_)
      refine goes_ Try.func19 (by kernel_rfl) rfl #[.agg #[.int .i64 t113, .slice Ao32 t114.length co32], .agg #[.int .i64 t125, .slice Ao66 t126.length co66]] (by rfl) rfl rfl (by (try simp only [List.map_toArray, List.map_cons, List.map_nil]); first | done | rfl | (simp only [List.length_drop, List.length_take]; rfl)) ?_
      with_reducible refine (laws_eqGraph.calls kj13 t113 _ _ t114 t125 _ _ t126 true _ ?side1 ?side2 ?side3 ?side4 A60.out).mono ?_
      (case side1 => repeat (first | exact (Kd.R_reads' HO_118001.out).2.2 | (with_reducible refine Kd.C_alloc ?_ _) | (with_reducible refine Kd.C_drewN ?_ _) | (with_reducible refine Kd.C_drew ?_)))
      (case side2 => exact (Kd.R_reads' HO_118001.out).2.1)
      (case side3 => repeat (first | exact (Kd.R_reads' HO128.out).2.2 | (with_reducible refine Kd.C_alloc ?_ _) | (with_reducible refine Kd.C_drewN ?_ _) | (with_reducible refine Kd.C_drew ?_)))
      (case side4 => exact (Kd.R_reads' HO128.out).2.1)
      rintro e w67 ⟨rfl, hb⟩
      refine ⟨_, rfl, ?_⟩
      have n0_ := rb HO_113001 hb; have n1_ := rb HO_118001 hb; have n2_ := rb HO_124001 hb; have n3_ := rb HO128 hb; have n4_ := bb BK101 hb; have n5_ := bb BK112 hb; have n6_ := bb BK117 hb; have n7_ := bb BK123 hb; have n8_ := bs4 HB hb GE101 GE112 GE117 GE123; clear HO_113001; clear HO_118001; clear HO_124001; clear HO128; clear BK101; clear BK112; clear BK117; clear BK123; clear HB; have HO_113001 := n0_; have HO_118001 := n1_; have HO_124001 := n2_; have HO128 := n3_; have BK101 := n4_; have BK112 := n5_; have BK117 := n6_; have BK123 := n7_; have HB := n8_; clear n0_ n1_ n2_ n3_ n4_ n5_ n6_ n7_ n8_
      (try clear hb)
      (try clear hb2)
      (try clear hk)
      (try clear hi)
      refine hK.out _ _ ⟨(blk_cell BK117.out 0).trans rfl, (blk_cell BK117.out 1).trans rfl, (blk_cell BK101.out 0).trans rfl, (blk_cell BK101.out 1).trans rfl⟩ (fun hHeld => ?_)
      clear hK K
      refine norm_ (a' := ?_) ?_ ?_
      rotate_left
      ·show Act.put _ (some 56) _ = _
       simp only [Act.put, List.setIfInBounds_toArray, List.set_cons_zero, List.set_cons_succ, i64_w, i32_w]
       rfl
      refine pure_ (i := 4) (N := some 57) (v := ?_) (a' := ?_) #[true, true, true, true, true] rfl rfl (by kernel_rfl) (fun _ _ _ h => h) (Or.inl ⟨by rfl, ?_⟩) ?_ ?_
      rotate_left
      ·intro w'
       go_simp
       with_reducible rfl
      rotate_left
      ·simp only [Act.put, List.setIfInBounds_toArray, List.set_cons_zero, List.set_cons_succ, i64_w, i32_w]
       rfl
      refine done_ (by kernel_rfl) ?_
      have hnb68 := NB117_101.out; have hnc68 := NB101_117.out; have hnb69 := NB117_112.out; have hnc69 := NB112_117.out; have hnb70 := NB117_123.out; have hnc70 := NB123_117.out; have hcz71_0 : w67.cell? ⟨gb117, 0, none⟩ = some (.int .i64 t113) := (blk_cell BK117.out 0).trans rfl; have hcz71_1 : w67.cell? ⟨gb117, 1, none⟩ = some (.slice Ao32 t114.length co32) := (blk_cell BK117.out 1).trans rfl; have hfz71_0 := blk_frozen BK117.out 0; have hfz71_1 := blk_frozen BK117.out 1
      go_upto_region 14 with (first | ((with_reducible refine gate_callee (f := 31) rfl ?_); refine goesL_ (some 60) rfl rfl Try.func31 (by kernel_rfl) rfl #[.agg #[.int .i64 t113, .slice Ao32 t114.length co32], .int .i64 1] rfl (by (try simp only [List.map_toArray, List.map_cons, List.map_nil]); first | done | rfl | (simp only [List.length_drop, List.length_take]; rfl)) ?_; (with_reducible refine (laws_markGraph.calls kj13 t113 (fun k_ => some k_ = (.slice Ao32 t114.length co32 : Value).ownBlock) (.slice Ao32 t114.length co32) t114 1 t130 t131 w _ ?side1 ?side2 A62.out).mono ?_); (case side1 => repeat (first | (with_reducible first | exact HB.out | apply below_alloc | apply pw_below_drewN | apply below_drew1 | refine below_set ?_ GE101.out | refine below_set ?_ GE112.out | refine below_set ?_ GE117.out | refine below_set ?_ GE123.out) | exact HB.out)); (case side2 => exact Kd.R_tight rfl HO_118001.out); rintro e w72 ⟨rfl, hy0, hb, hkp⟩; refine ⟨_, rfl, ?_⟩; have n0_ := Aside0.mk (Kd.R_mono (ok' := fun k_ => some k_ ≠ (.slice Ao32 t114.length co32 : Value).ownBlock ∧ some k_ ≠ (.slice Ao39 t119.length co39 : Value).ownBlock ∧ some k_ ≠ (.slice Ao66 t126.length co66 : Value).ownBlock) (Kd.R_keptB (HO_113001.out) hkp (fun k_ hk_ hs_ => (hk_.1.1) hs_)) (fun k_ hk_ => ⟨hk_.1.1.1, hk_.1.1.2, hk_.1.2⟩)); have n1_ := Aside0.mk (Kd.R_reok rfl hy0 (fun k_ e_ => HO_118001.out.1 k_ e_)); have n2_ := Aside0.mk (Kd.R_mono (ok' := fun k_ => some k_ ≠ (.slice Ao25 t108.length co25 : Value).ownBlock ∧ some k_ ≠ (.slice Ao32 t114.length co32 : Value).ownBlock ∧ some k_ ≠ (.slice Ao66 t126.length co66 : Value).ownBlock) (Kd.R_keptB (HO_124001.out) hkp (fun k_ hk_ hs_ => (hk_.1.2) hs_)) (fun k_ hk_ => ⟨hk_.1.1.1, hk_.1.1.2, hk_.1.2⟩)); have n3_ := Aside0.mk (blk_kept (dr BK101) hkp (fun hs_ => (fun e_ => (Kd.R_ne HO_118001.out BK101.out (by decide)) e_) hs_)); have n4_ := Aside0.mk (blk_kept (dr BK112) hkp (fun hs_ => (fun e_ => (Kd.R_ne HO_118001.out BK112.out (by decide)) e_) hs_)); have n5_ := Aside0.mk (blk_kept (dr BK117) hkp (fun hs_ => (fun e_ => (Kd.R_ne HO_118001.out BK117.out (by decide)) e_) hs_)); have n6_ := Aside0.mk (blk_kept (dr BK123) hkp (fun hs_ => (fun e_ => (Kd.R_ne HO_118001.out BK123.out (by decide)) e_) hs_)); have n7_ := Aside0.mk (Kd.R_mono (ok' := fun k_ => some k_ ≠ (.slice Ao25 t108.length co25 : Value).ownBlock ∧ some k_ ≠ (.slice Ao32 t114.length co32 : Value).ownBlock ∧ some k_ ≠ (.slice Ao39 t119.length co39 : Value).ownBlock) (Kd.R_keptB (HO128.out) hkp (fun k_ hk_ hs_ => (hk_.1.2) hs_)) (fun k_ hk_ => ⟨hk_.1.1.1.2, hk_.1.1.2, hk_.1.2⟩)); have n8_ := Aside0.mk (hb); clear HO_113001; clear HO_118001; clear HO_124001; clear BK101; clear BK112; clear BK117; clear BK123; clear HO128; clear HB; have HO_113001 := n0_; have HO_118001 := n1_; have HO_124001 := n2_; have BK101 := n3_; have BK112 := n4_; have BK117 := n5_; have BK123 := n6_; have HO128 := n7_; have HB := n8_; clear n0_ n1_ n2_ n3_ n4_ n5_ n6_ n7_ n8_; (try clear hb); (try clear hkp); (try clear hy0)))
      (try simp only [Act.put, List.setIfInBounds_toArray, List.set_cons_zero, List.set_cons_succ])
      go_cut [73] (fun v73 wc => ∃ (kq : Nat) (x73_62 : Bool), v73 = .bool x73_62 ∧ Aside0 (laws_FnExactGraphIf.j1 kq a1 a2 a3 t111 x73_62 a0_0 l0_1 t107 t108 t118 t119 = some r) ∧ Aside0 (kq ≤ kj13) ∧ Aside0 (Kd.R k79 79 wc w.heap.size (fun k_ => some k_ ≠ ((.slice Ao32 t114.length co32) : Value).ownBlock ∧ some k_ ≠ ((.slice Ao39 t119.length co39) : Value).ownBlock) (.slice Ao25 t108.length co25) t108) ∧ Aside0 (Kd.R k79 79 wc w.heap.size (fun k_ => some k_ ≠ ((.slice Ao25 t108.length co25) : Value).ownBlock ∧ some k_ ≠ ((.slice Ao39 t119.length co39) : Value).ownBlock) (.slice Ao32 t114.length co32) t131) ∧ Aside0 (Kd.R k79 79 wc w.heap.size (fun k_ => some k_ ≠ ((.slice Ao25 t108.length co25) : Value).ownBlock ∧ some k_ ≠ ((.slice Ao32 t114.length co32) : Value).ownBlock) (.slice Ao39 t119.length co39) t119) ∧ Aside0 (wc.heap[gb101]? = some (.cells #[.int .i64 a0_0, (.slice A0_1 l0_1.length c0_1)] 24 (0, 0))) ∧ Aside0 (wc.heap[gb112]? = some (.cells #[.int .i64 t107, (.slice Ao25 t108.length co25)] 29 (0, 0))) ∧ Aside0 (wc.heap[gb117]? = some (.cells #[.int .i64 t113, (.slice Ao32 t114.length co32)] 29 (0, 0))) ∧ Aside0 (wc.heap[gb123]? = some (.cells #[.int .i64 t118, (.slice Ao39 t119.length co39)] 29 (0, 0))) ∧ Aside0 (Below w.heap.size w wc))
      case first =>
       have H := HC63.out; clear HC63
       by_cases c73 : t130 < 0
       ·rw [if_pos c73] at H
        have c73b0 : decide (t130 < 0) = true := decide_eq_true c73; clear c73
        (first | rw [c73b0] | (simp only [i64_w, i32_w]; rw [c73b0]) | skip)
        have H' := Aside0.mk H
        clear H
        go_wp2
        go_meet
        case rel => exact ⟨_, (true), (by first | rfl | (simp; done) | (simp [*]; done)), H', ⟨by have := HJ13.out; first | omega | exact Nat.le_refl _⟩, ⟨by (with_reducible repeat (first | apply Kd.R_alloc | apply Kd.R_drewN | apply Kd.R_drew)); exact Kd.R_mono HO_113001.out (fun _ hk => ⟨hk.1, hk.2.1⟩)⟩, ⟨by (with_reducible repeat (first | apply Kd.R_alloc | apply Kd.R_drewN | apply Kd.R_drew)); exact Kd.R_mono HO_118001.out (fun _ hk => ⟨hk.1.1, hk.1.2⟩)⟩, ⟨by (with_reducible repeat (first | apply Kd.R_alloc | apply Kd.R_drewN | apply Kd.R_drew)); exact Kd.R_mono HO_124001.out (fun _ hk => ⟨hk.1, hk.2.1⟩)⟩, ⟨by (with_reducible repeat (first | refine blk_drewN ?_ _ | refine blk_drew ?_ | refine blk_alloc ?_ _)); exact BK101.out⟩, ⟨by (with_reducible repeat (first | refine blk_drewN ?_ _ | refine blk_drew ?_ | refine blk_alloc ?_ _)); exact BK112.out⟩, ⟨by (with_reducible repeat (first | refine blk_drewN ?_ _ | refine blk_drew ?_ | refine blk_alloc ?_ _)); exact BK117.out⟩, ⟨by (with_reducible repeat (first | refine blk_drewN ?_ _ | refine blk_drew ?_ | refine blk_alloc ?_ _)); exact BK123.out⟩, ⟨by repeat (first | (with_reducible first | exact HB.out | apply below_alloc | apply pw_below_drewN | apply below_drew1 | refine below_set ?_ GE101.out | refine below_set ?_ GE112.out | refine below_set ?_ GE117.out | refine below_set ?_ GE123.out) | exact HB.out)⟩⟩
       ·rw [if_neg c73] at H
        have c73b0 : decide (t130 < 0) = false := decide_eq_false c73; clear c73
        (first | rw [c73b0] | (simp only [i64_w, i32_w]; rw [c73b0]) | skip)
        replace H := Option.bind_eq_some_iff.mp H
        obtain ⟨t132, A740, H⟩ := H
        replace H : (if t132 = true then (laws_FnExactGraphIf.j1 kj13 a1 a2 a3 t111 (t122 != t111) a0_0 l0_1 t107 t108 t118 t119) else (laws_FnExactGraphIf.j1 kj13 a1 a2 a3 t111 true a0_0 l0_1 t107 t108 t118 t119)) = some r := H
        have A74 := Aside0.mk A740; clear A740
        by_cases c75 : t132 = true
        ·subst c75
         have H1 : (laws_FnExactGraphIf.j1 kj13 a1 a2 a3 t111 (t122 != t111) a0_0 l0_1 t107 t108 t118 t119) = some r := by rw [if_pos rfl] at H; exact H
         clear H; have H := H1; clear H1
         have H' := Aside0.mk H
         clear H; have hnb76 := NB123_101.out; have hnc76 := NB101_123.out; have hnb77 := NB123_112.out; have hnc77 := NB112_123.out; have hnb78 := NB123_117.out; have hnc78 := NB117_123.out; have hcz79_0 : w72.cell? ⟨gb123, 0, none⟩ = some (.int .i64 t118) := (blk_cell BK123.out 0).trans rfl; have hcz79_1 : w72.cell? ⟨gb123, 1, none⟩ = some (.slice Ao39 t119.length co39) := (blk_cell BK123.out 1).trans rfl; have hfz79_0 := blk_frozen BK123.out 0; have hfz79_1 := blk_frozen BK123.out 1; have hnb80 := NB112_101.out; have hnc80 := NB101_112.out; have hnb81 := NB112_117.out; have hnc81 := NB117_112.out; have hcz82_0 : w72.cell? ⟨gb112, 0, none⟩ = some (.int .i64 t107) := (blk_cell BK112.out 0).trans rfl; have hcz82_1 : w72.cell? ⟨gb112, 1, none⟩ = some (.slice Ao25 t108.length co25) := (blk_cell BK112.out 1).trans rfl; have hfz82_0 := blk_frozen BK112.out 0; have hfz82_1 := blk_frozen BK112.out 1
         go_wp2_with (first | (go_at_call 19; (try simp only [i64_w, i32_w]); (with_reducible refine (laws_eqGraph.calls kj13 t118 _ _ t119 t107 _ _ t108 true _ ?side1 ?side2 ?side3 ?side4 A74.out).mono ?_); (case side1 => repeat (first | exact (Kd.R_reads' HO_124001.out).2.2 | (with_reducible refine Kd.C_alloc ?_ _) | (with_reducible refine Kd.C_drewN ?_ _) | (with_reducible refine Kd.C_drew ?_))); (case side2 => exact (Kd.R_reads' HO_124001.out).2.1); (case side3 => repeat (first | exact (Kd.R_reads' HO_113001.out).2.2 | (with_reducible refine Kd.C_alloc ?_ _) | (with_reducible refine Kd.C_drewN ?_ _) | (with_reducible refine Kd.C_drew ?_))); (case side4 => exact (Kd.R_reads' HO_113001.out).2.1); rintro e w83 ⟨rfl, hb⟩; have n0_ := rb HO_113001 hb; have n1_ := rb HO_118001 hb; have n2_ := rb HO_124001 hb; have n3_ := rb HO128 hb; have n4_ := bb BK101 hb; have n5_ := bb BK112 hb; have n6_ := bb BK117 hb; have n7_ := bb BK123 hb; have n8_ := bs4 HB hb GE101 GE112 GE117 GE123; clear HO_113001; clear HO_118001; clear HO_124001; clear HO128; clear BK101; clear BK112; clear BK117; clear BK123; clear HB; have HO_113001 := n0_; have HO_118001 := n1_; have HO_124001 := n2_; have HO128 := n3_; have BK101 := n4_; have BK112 := n5_; have BK117 := n6_; have BK123 := n7_; have HB := n8_; clear n0_ n1_ n2_ n3_ n4_ n5_ n6_ n7_ n8_; (try clear hb); (try clear hb2); (try clear hk); (try clear hi)))
         go_meet
         case rel => exact ⟨_, ((t122 != t111)), (by first | rfl | (simp; done) | (simp [*]; done)), H', ⟨by have := HJ13.out; first | omega | exact Nat.le_refl _⟩, ⟨by (with_reducible repeat (first | apply Kd.R_alloc | apply Kd.R_drewN | apply Kd.R_drew)); exact Kd.R_mono HO_113001.out (fun _ hk => ⟨hk.1, hk.2.1⟩)⟩, ⟨by (with_reducible repeat (first | apply Kd.R_alloc | apply Kd.R_drewN | apply Kd.R_drew)); exact Kd.R_mono HO_118001.out (fun _ hk => ⟨hk.1.1, hk.1.2⟩)⟩, ⟨by (with_reducible repeat (first | apply Kd.R_alloc | apply Kd.R_drewN | apply Kd.R_drew)); exact Kd.R_mono HO_124001.out (fun _ hk => ⟨hk.1, hk.2.1⟩)⟩, ⟨by (with_reducible repeat (first | refine blk_drewN ?_ _ | refine blk_drew ?_ | refine blk_alloc ?_ _)); exact BK101.out⟩, ⟨by (with_reducible repeat (first | refine blk_drewN ?_ _ | refine blk_drew ?_ | refine blk_alloc ?_ _)); exact BK112.out⟩, ⟨by (with_reducible repeat (first | refine blk_drewN ?_ _ | refine blk_drew ?_ | refine blk_alloc ?_ _)); exact BK117.out⟩, ⟨by (with_reducible repeat (first | refine blk_drewN ?_ _ | refine blk_drew ?_ | refine blk_alloc ?_ _)); exact BK123.out⟩, ⟨by repeat (first | (with_reducible first | exact HB.out | apply below_alloc | apply pw_below_drewN | apply below_drew1 | refine below_set ?_ GE101.out | refine below_set ?_ GE112.out | refine below_set ?_ GE117.out | refine below_set ?_ GE123.out) | exact HB.out)⟩⟩
        ·replace c75 := Bool.eq_false_iff.mpr c75
         subst c75
         have H1 : (laws_FnExactGraphIf.j1 kj13 a1 a2 a3 t111 true a0_0 l0_1 t107 t108 t118 t119) = some r := by rw [if_neg (show ¬ (false = true) by decide)] at H; exact H
         clear H; have H := H1; clear H1
         have H' := Aside0.mk H
         clear H; have hnb84 := NB123_101.out; have hnc84 := NB101_123.out; have hnb85 := NB123_112.out; have hnc85 := NB112_123.out; have hnb86 := NB123_117.out; have hnc86 := NB117_123.out; have hcz87_0 : w72.cell? ⟨gb123, 0, none⟩ = some (.int .i64 t118) := (blk_cell BK123.out 0).trans rfl; have hcz87_1 : w72.cell? ⟨gb123, 1, none⟩ = some (.slice Ao39 t119.length co39) := (blk_cell BK123.out 1).trans rfl; have hfz87_0 := blk_frozen BK123.out 0; have hfz87_1 := blk_frozen BK123.out 1; have hnb88 := NB112_101.out; have hnc88 := NB101_112.out; have hnb89 := NB112_117.out; have hnc89 := NB117_112.out; have hcz90_0 : w72.cell? ⟨gb112, 0, none⟩ = some (.int .i64 t107) := (blk_cell BK112.out 0).trans rfl; have hcz90_1 : w72.cell? ⟨gb112, 1, none⟩ = some (.slice Ao25 t108.length co25) := (blk_cell BK112.out 1).trans rfl; have hfz90_0 := blk_frozen BK112.out 0; have hfz90_1 := blk_frozen BK112.out 1
         go_wp2_with (first | (go_at_call 19; (try simp only [i64_w, i32_w]); (with_reducible refine (laws_eqGraph.calls kj13 t118 _ _ t119 t107 _ _ t108 false _ ?side1 ?side2 ?side3 ?side4 A74.out).mono ?_); (case side1 => repeat (first | exact (Kd.R_reads' HO_124001.out).2.2 | (with_reducible refine Kd.C_alloc ?_ _) | (with_reducible refine Kd.C_drewN ?_ _) | (with_reducible refine Kd.C_drew ?_))); (case side2 => exact (Kd.R_reads' HO_124001.out).2.1); (case side3 => repeat (first | exact (Kd.R_reads' HO_113001.out).2.2 | (with_reducible refine Kd.C_alloc ?_ _) | (with_reducible refine Kd.C_drewN ?_ _) | (with_reducible refine Kd.C_drew ?_))); (case side4 => exact (Kd.R_reads' HO_113001.out).2.1); rintro e w91 ⟨rfl, hb⟩; have n0_ := rb HO_113001 hb; have n1_ := rb HO_118001 hb; have n2_ := rb HO_124001 hb; have n3_ := rb HO128 hb; have n4_ := bb BK101 hb; have n5_ := bb BK112 hb; have n6_ := bb BK117 hb; have n7_ := bb BK123 hb; have n8_ := bs4 HB hb GE101 GE112 GE117 GE123; clear HO_113001; clear HO_118001; clear HO_124001; clear HO128; clear BK101; clear BK112; clear BK117; clear BK123; clear HB; have HO_113001 := n0_; have HO_118001 := n1_; have HO_124001 := n2_; have HO128 := n3_; have BK101 := n4_; have BK112 := n5_; have BK117 := n6_; have BK123 := n7_; have HB := n8_; clear n0_ n1_ n2_ n3_ n4_ n5_ n6_ n7_ n8_; (try clear hb); (try clear hb2); (try clear hk); (try clear hi)))
         go_meet
         case rel => exact ⟨_, (true), (by first | rfl | (simp; done) | (simp [*]; done)), H', ⟨by have := HJ13.out; first | omega | exact Nat.le_refl _⟩, ⟨by (with_reducible repeat (first | apply Kd.R_alloc | apply Kd.R_drewN | apply Kd.R_drew)); exact Kd.R_mono HO_113001.out (fun _ hk => ⟨hk.1, hk.2.1⟩)⟩, ⟨by (with_reducible repeat (first | apply Kd.R_alloc | apply Kd.R_drewN | apply Kd.R_drew)); exact Kd.R_mono HO_118001.out (fun _ hk => ⟨hk.1.1, hk.1.2⟩)⟩, ⟨by (with_reducible repeat (first | apply Kd.R_alloc | apply Kd.R_drewN | apply Kd.R_drew)); exact Kd.R_mono HO_124001.out (fun _ hk => ⟨hk.1, hk.2.1⟩)⟩, ⟨by (with_reducible repeat (first | refine blk_drewN ?_ _ | refine blk_drew ?_ | refine blk_alloc ?_ _)); exact BK101.out⟩, ⟨by (with_reducible repeat (first | refine blk_drewN ?_ _ | refine blk_drew ?_ | refine blk_alloc ?_ _)); exact BK112.out⟩, ⟨by (with_reducible repeat (first | refine blk_drewN ?_ _ | refine blk_drew ?_ | refine blk_alloc ?_ _)); exact BK117.out⟩, ⟨by (with_reducible repeat (first | refine blk_drewN ?_ _ | refine blk_drew ?_ | refine blk_alloc ?_ _)); exact BK123.out⟩, ⟨by repeat (first | (with_reducible first | exact HB.out | apply below_alloc | apply pw_below_drewN | apply below_drew1 | refine below_set ?_ GE101.out | refine below_set ?_ GE112.out | refine below_set ?_ GE117.out | refine below_set ?_ GE123.out) | exact HB.out)⟩⟩
      case rest =>
       clear HC63
       (try clear c1); (try clear c2); (try clear p2); (try clear c3); (try clear c4); (try clear c5); (try clear c6); (try clear c6b0); (try clear c7); (try clear c8); (try clear c9); (try clear c15); (try clear c17); (try clear c19); (try clear c23); (try clear c29); (try clear c30); (try clear c31); (try clear c35); (try clear c36); (try clear c37); (try clear c41); (try clear c42); (try clear c43); (try clear c44); (try clear c46); (try clear c47); (try clear c50); (try clear c51); (try clear c52); (try clear c54); (try clear c55); (try clear c58); (try clear c61); (try clear c68); (try clear c69); (try clear c70); (try clear c73); (try clear c73b0); (try clear c75); (try clear c76); (try clear c77); (try clear c78); (try clear c80); (try clear c81); (try clear c84); (try clear c85); (try clear c86); (try clear c88); (try clear c89); (try clear hcz16_0); (try clear hcz16_1); (try clear hcz18_0); (try clear hcz18_1); (try clear hcz24_0); (try clear hcz24_1); (try clear hcz26_0); (try clear hcz26_1); (try clear hcz31_0); (try clear hcz31_1); (try clear hcz38_0); (try clear hcz38_1); (try clear hcz45_0); (try clear hcz45_1); (try clear hcz48_0); (try clear hcz48_1); (try clear hcz53_0); (try clear hcz53_1); (try clear hcz56_0); (try clear hcz56_1); (try clear hcz71_0); (try clear hcz71_1); (try clear hcz79_0); (try clear hcz79_1); (try clear hcz82_0); (try clear hcz82_1); (try clear hcz87_0); (try clear hcz87_1); (try clear hcz8_0); (try clear hcz8_1); (try clear hcz90_0); (try clear hcz90_1); (try clear hfz16_0); (try clear hfz16_1); (try clear hfz18_0); (try clear hfz18_1); (try clear hfz24_0); (try clear hfz24_1); (try clear hfz26_0); (try clear hfz26_1); (try clear hfz31_0); (try clear hfz31_1); (try clear hfz38_0); (try clear hfz38_1); (try clear hfz45_0); (try clear hfz45_1); (try clear hfz48_0); (try clear hfz48_1); (try clear hfz53_0); (try clear hfz53_1); (try clear hfz56_0); (try clear hfz56_1); (try clear hfz71_0); (try clear hfz71_1); (try clear hfz79_0); (try clear hfz79_1); (try clear hfz82_0); (try clear hfz82_1); (try clear hfz87_0); (try clear hfz87_1); (try clear hfz8_0); (try clear hfz8_1); (try clear hfz90_0); (try clear hfz90_1); (try clear p2)
       obtain ⟨kq, x73_62, rfl, HA, HJ62, HO_113001, HO_118001, HO_124001, BK101, BK112, BK117, BK123, HB⟩ := hcut
       have hl118001_62 := (Kd.R_reads' HO_118001.out).1
       rw [hl118001_62] at HO_118001
       (try simp only [hl118001_62])
       (try simp only [hl118001_62] at BK101)
       (try simp only [hl118001_62] at BK112)
       (try simp only [hl118001_62] at BK117)
       (try simp only [hl118001_62] at BK123)
       (try simp only [hl118001_62] at HO_113001)
       (try simp only [hl118001_62] at HO_124001)
       cases kq with
              | zero => exact absurd HA.out (by simp [laws_FnExactGraphIf.j1])
              | succ kj62 =>
        have H := HA.out; clear HA
        simp only [laws_FnExactGraphIf.j1] at H
        by_cases c92 : x73_62 = true
        ·subst c92
         have H1 : (some false) = some r := by rw [if_pos rfl] at H; exact H
         clear H; have H := H1; clear H1
         exact absurd ((Option.some.inj H).trans HT.out) (by decide)
        ·replace c92 := Bool.eq_false_iff.mpr c92
         subst c92
         have H1 : ((laws_markGraph.f kj62 t118 t119 1).bind fun bt133 => ((laws_heldGraph.f kj62 t118 bt133.2 1).bind fun t135 => (if t135 < 0 then (some false) else (if t135 = bt133.1 then ((laws_toGraph.f kj62 a0_0 l0_1).bind fun bt136 => ((impl_GraphIf.f bt136.1 bt136.2 a1 a2 a3).bind fun bt140 => ((laws_eqGraph.f kj62 bt140.1 bt140.2.1 t107 t108).bind fun t146 => (if t146 = true then (laws_FnExactGraphIf.j2 kj62 bt133.1 (bt140.2.2 != t111) t118 bt133.2) else (laws_FnExactGraphIf.j2 kj62 bt133.1 true t118 bt133.2))))) else (some false))))) = some r := by rw [if_neg (show ¬ (false = true) by decide)] at H; exact H
         clear H; have H := H1; clear H1
         replace H := Option.bind_eq_some_iff.mp H
         obtain ⟨⟨t133, t134⟩, A930, H⟩ := H
         replace H : ((laws_heldGraph.f kj62 t118 t134 1).bind fun t135 => (if t135 < 0 then (some false) else (if t135 = t133 then ((laws_toGraph.f kj62 a0_0 l0_1).bind fun bt136 => ((impl_GraphIf.f bt136.1 bt136.2 a1 a2 a3).bind fun bt140 => ((laws_eqGraph.f kj62 bt140.1 bt140.2.1 t107 t108).bind fun t146 => (if t146 = true then (laws_FnExactGraphIf.j2 kj62 t133 (bt140.2.2 != t111) t118 t134) else (laws_FnExactGraphIf.j2 kj62 t133 true t118 t134))))) else (some false)))) = some r := H
         have A93 := Aside0.mk A930; clear A930
         replace H := Option.bind_eq_some_iff.mp H
         obtain ⟨t135, A940, H⟩ := H
         replace H : (if t135 < 0 then (some false) else (if t135 = t133 then ((laws_toGraph.f kj62 a0_0 l0_1).bind fun bt136 => ((impl_GraphIf.f bt136.1 bt136.2 a1 a2 a3).bind fun bt140 => ((laws_eqGraph.f kj62 bt140.1 bt140.2.1 t107 t108).bind fun t146 => (if t146 = true then (laws_FnExactGraphIf.j2 kj62 t133 (bt140.2.2 != t111) t118 t134) else (laws_FnExactGraphIf.j2 kj62 t133 true t118 t134))))) else (some false))) = some r := H
         have A94 := Aside0.mk A940; clear A940
         by_cases c95 : t135 < 0
         ·rw [if_pos c95] at H
          have c95b0 : decide (t135 < 0) = true := decide_eq_true c95; clear c95
          exact absurd ((Option.some.inj H).trans HT.out) (by decide)
         ·rw [if_neg c95] at H
          have c95b0 : decide (t135 < 0) = false := decide_eq_false c95; clear c95
          by_cases c96 : t135 = t133
          ·rw [if_pos c96] at H
           have c96b0 : (t135 == t133) = true := beq_iff_eq.mpr c96; have c96b1 : (t135 != t133) = false := bne_eq_false_iff_eq.mpr c96; clear c96
           replace H := Option.bind_eq_some_iff.mp H
           obtain ⟨⟨t136, t137⟩, A970, H⟩ := H
           replace H : ((impl_GraphIf.f t136 t137 a1 a2 a3).bind fun bt140 => ((laws_eqGraph.f kj62 bt140.1 bt140.2.1 t107 t108).bind fun t146 => (if t146 = true then (laws_FnExactGraphIf.j2 kj62 t133 (bt140.2.2 != t111) t118 t134) else (laws_FnExactGraphIf.j2 kj62 t133 true t118 t134)))) = some r := H
           have A97 := Aside0.mk A970; clear A970
           replace H := Option.bind_eq_some_iff.mp H
           obtain ⟨⟨t140, t141, t144⟩, A980, H⟩ := H
           replace H : ((laws_eqGraph.f kj62 t140 t141 t107 t108).bind fun t146 => (if t146 = true then (laws_FnExactGraphIf.j2 kj62 t133 (t144 != t111) t118 t134) else (laws_FnExactGraphIf.j2 kj62 t133 true t118 t134))) = some r := H
           have A98 := Aside0.mk A980; clear A980; have HC99 := Aside0.mk H; clear H; have hnb100 := NB123_101.out; have hnc100 := NB101_123.out; have hnb101 := NB123_112.out; have hnc101 := NB112_123.out; have hnb102 := NB123_117.out; have hnc102 := NB117_123.out; have hcz103_0 : wc.cell? ⟨gb123, 0, none⟩ = some (.int .i64 t118) := (blk_cell BK123.out 0).trans rfl; have hcz103_1 : wc.cell? ⟨gb123, 1, none⟩ = some (.slice Ao39 t119.length co39) := (blk_cell BK123.out 1).trans rfl; have hfz103_0 := blk_frozen BK123.out 0; have hfz103_1 := blk_frozen BK123.out 1
           go_upto_region 25 with (first | ((with_reducible refine gate_callee (f := 31) rfl ?_); refine goesL_ (some 76) rfl rfl Try.func31 (by kernel_rfl) rfl #[.agg #[.int .i64 t118, .slice Ao39 t119.length co39], .int .i64 1] rfl (by (try simp only [List.map_toArray, List.map_cons, List.map_nil]); first | done | rfl | (simp only [List.length_drop, List.length_take]; rfl)) ?_; (with_reducible refine (laws_markGraph.calls kj62 t118 (fun k_ => some k_ = (.slice Ao39 t119.length co39 : Value).ownBlock) (.slice Ao39 t119.length co39) t119 1 t133 t134 w _ ?side1 ?side2 A93.out).mono ?_); (case side1 => repeat (first | (with_reducible first | exact HB.out | apply below_alloc | apply pw_below_drewN | apply below_drew1 | refine below_set ?_ GE101.out | refine below_set ?_ GE112.out | refine below_set ?_ GE117.out | refine below_set ?_ GE123.out) | exact HB.out)); (case side2 => exact Kd.R_tight rfl HO_124001.out); rintro e w104 ⟨rfl, hy0, hb, hkp⟩; refine ⟨_, rfl, ?_⟩; have n0_ := Aside0.mk (Kd.R_mono (ok' := fun k_ => some k_ ≠ (.slice Ao32 t131.length co32 : Value).ownBlock ∧ some k_ ≠ (.slice Ao39 t119.length co39 : Value).ownBlock) (Kd.R_keptB (HO_113001.out) hkp (fun k_ hk_ hs_ => (hk_.2) hs_)) (fun k_ hk_ => ⟨hk_.1.1, hk_.1.2⟩)); have n1_ := Aside0.mk (Kd.R_mono (ok' := fun k_ => some k_ ≠ (.slice Ao25 t108.length co25 : Value).ownBlock ∧ some k_ ≠ (.slice Ao39 t119.length co39 : Value).ownBlock) (Kd.R_keptB (HO_118001.out) hkp (fun k_ hk_ hs_ => (hk_.2) hs_)) (fun k_ hk_ => ⟨hk_.1.1, hk_.1.2⟩)); have n2_ := Aside0.mk (Kd.R_reok rfl hy0 (fun k_ e_ => HO_124001.out.1 k_ e_)); have n3_ := Aside0.mk (blk_kept (dr BK101) hkp (fun hs_ => (fun e_ => (Kd.R_ne HO_124001.out BK101.out (by decide)) e_) hs_)); have n4_ := Aside0.mk (blk_kept (dr BK112) hkp (fun hs_ => (fun e_ => (Kd.R_ne HO_124001.out BK112.out (by decide)) e_) hs_)); have n5_ := Aside0.mk (blk_kept (dr BK117) hkp (fun hs_ => (fun e_ => (Kd.R_ne HO_124001.out BK117.out (by decide)) e_) hs_)); have n6_ := Aside0.mk (blk_kept (dr BK123) hkp (fun hs_ => (fun e_ => (Kd.R_ne HO_124001.out BK123.out (by decide)) e_) hs_)); have n7_ := Aside0.mk (hb); clear HO_113001; clear HO_118001; clear HO_124001; clear BK101; clear BK112; clear BK117; clear BK123; clear HB; have HO_113001 := n0_; have HO_118001 := n1_; have HO_124001 := n2_; have BK101 := n3_; have BK112 := n4_; have BK117 := n5_; have BK123 := n6_; have HB := n7_; clear n0_ n1_ n2_ n3_ n4_ n5_ n6_ n7_; (try clear hb); (try clear hkp); (try clear hy0); have hcz105_0 : w104.cell? ⟨gb123, 0, none⟩ = some (.int .i64 t118) := (blk_cell BK123.out 0).trans rfl; have hcz105_1 : w104.cell? ⟨gb123, 1, none⟩ = some (.slice Ao39 t119.length co39) := (blk_cell BK123.out 1).trans rfl; have hfz105_0 := blk_frozen BK123.out 0; have hfz105_1 := blk_frozen BK123.out 1) | ((with_reducible refine gate_callee (f := 32) rfl ?_); refine goesL_ (some 79) rfl rfl Try.func32 (by kernel_rfl) rfl #[.agg #[.int .i64 t118, .slice Ao39 t134.length co39], .int .i64 1] rfl (by (try simp only [List.map_toArray, List.map_cons, List.map_nil]); first | done | (rw [show t134.length = t119.length from (Kd.R_reads' HO_124001.out).1.symm] <;> rfl) | rfl | (simp only [List.length_drop, List.length_take]; rfl)) ?_; (with_reducible refine (laws_heldGraph.calls kj62 t118 _ _ t134 1 t135 _ ?side1 ?side2 A94.out).mono ?_); (case side1 => repeat (first | exact (Kd.R_reads' HO_124001.out).2.2 | (with_reducible refine Kd.C_alloc ?_ _) | (with_reducible refine Kd.C_drewN ?_ _) | (with_reducible refine Kd.C_drew ?_))); (case side2 => rw [show t134.length = t119.length from (Kd.R_reads' HO_124001.out).1.symm]; exact (Kd.R_reads' HO_124001.out).2.1); rintro e w106 ⟨rfl, hb⟩; refine ⟨_, rfl, ?_⟩; have n0_ := rb HO_113001 hb; have n1_ := rb HO_118001 hb; have n2_ := rb HO_124001 hb; have n3_ := bb BK101 hb; have n4_ := bb BK112 hb; have n5_ := bb BK117 hb; have n6_ := bb BK123 hb; have n7_ := bs4 HB hb GE101 GE112 GE117 GE123; clear HO_113001; clear HO_118001; clear HO_124001; clear BK101; clear BK112; clear BK117; clear BK123; clear HB; have HO_113001 := n0_; have HO_118001 := n1_; have HO_124001 := n2_; have BK101 := n3_; have BK112 := n4_; have BK117 := n5_; have BK123 := n6_; have HB := n7_; clear n0_ n1_ n2_ n3_ n4_ n5_ n6_ n7_; (try clear hb); (try clear hb2); (try clear hk); (try clear hi); have hnb107 := NB101_112.out; have hnc107 := NB112_101.out; have hnb108 := NB101_117.out; have hnc108 := NB117_101.out; have hcz109_0 : w106.cell? ⟨gb101, 0, none⟩ = some (.int .i64 a0_0) := (blk_cell BK101.out 0).trans rfl; have hcz109_1 : w106.cell? ⟨gb101, 1, none⟩ = some (.slice A0_1 l0_1.length c0_1) := (blk_cell BK101.out 1).trans rfl; have hfz109_0 := blk_frozen BK101.out 0; have hfz109_1 := blk_frozen BK101.out 1) | ((with_reducible refine gate_callee (f := 17) rfl ?_); refine goesL_ (some 87) rfl rfl Try.func17 (by kernel_rfl) rfl #[.agg #[.int .i64 a0_0, .slice A0_1 l0_1.length c0_1]] rfl (by (try simp only [List.map_toArray, List.map_cons, List.map_nil]); first | done | rfl | (simp only [List.length_drop, List.length_take]; rfl)) ?_; (with_reducible refine (laws_toGraph.calls kj62 a0_0 _ _ l0_1 t136 t137 _ ?side1 ?side2 A97.out).mono ?_); (case side1 => repeat (first | exact (Kd.C_below HR0_1.out HB.out) | (with_reducible refine Kd.C_alloc ?_ _) | (with_reducible refine Kd.C_drewN ?_ _) | (with_reducible refine Kd.C_drew ?_))); (case side2 => exact HC0_1.out); rintro e w110 ⟨v138, rfl, ho0, hb⟩; refine ⟨_, rfl, ?_⟩; have n0_ := re HO_113001 (Kd.R_base ho0) hb; have n1_ := re HO_118001 (Kd.R_base ho0) hb; have n2_ := re HO_124001 (Kd.R_base ho0) hb; have n3_ := Aside0.mk (Kd.R_lower (Kd.R_new' (Kd.R_new' (Kd.R_new' ho0 (Kd.R_lt (by (with_reducible repeat (first | apply Kd.R_alloc | apply Kd.R_drewN | apply Kd.R_drew)); exact HO_113001.out))) (Kd.R_lt (by (with_reducible repeat (first | apply Kd.R_alloc | apply Kd.R_drewN | apply Kd.R_drew)); exact HO_118001.out))) (Kd.R_lt (by (with_reducible repeat (first | apply Kd.R_alloc | apply Kd.R_drewN | apply Kd.R_drew)); exact HO_124001.out))) (below_size (by repeat (first | (with_reducible first | exact HB.out | apply below_alloc | apply pw_below_drewN | apply below_drew1 | refine below_set ?_ GE101.out | refine below_set ?_ GE112.out | refine below_set ?_ GE117.out | refine below_set ?_ GE123.out) | exact HB.out)))); have n4_ := bb BK101 hb; have n5_ := bb BK112 hb; have n6_ := bb BK117 hb; have n7_ := bb BK123 hb; have n8_ := bs4 HB hb GE101 GE112 GE117 GE123; clear HO_113001; clear HO_118001; clear HO_124001; clear BK101; clear BK112; clear BK117; clear BK123; clear HB; have HO_113001 := n0_; have HO_118001 := n1_; have HO_124001 := n2_; have HO139 := n3_; have BK101 := n4_; have BK112 := n5_; have BK117 := n6_; have BK123 := n7_; have HB := n8_; clear n0_ n1_ n2_ n3_ n4_ n5_ n6_ n7_ n8_; (try clear hb); (try clear hb2); (try clear hk); (try clear hi); (try clear ho0); obtain ⟨Ao111, co111, eo111⟩ := Kd.R_slice HO139.out; subst eo111) | ((with_reducible refine gate_callee (f := 36) rfl ?_); refine goesL_ (some 91) rfl rfl Try.func36 (by kernel_rfl) rfl #[.agg #[.int .i64 t136, .slice Ao111 t137.length co111], .int .i64 a1, .int .i64 a2, .int .i64 a3] rfl (by (try simp only [List.map_toArray, List.map_cons, List.map_nil]); first | done | rfl | (simp only [List.length_drop, List.length_take]; rfl)) ?_; (with_reducible refine (impl_GraphIf.calls t136 _ _ t137 a1 a2 a3 t140 t141 t144 _ ?side1 ?side2 A98.out).mono ?_); (case side1 => repeat (first | exact (Kd.R_reads' HO139.out).2.2 | (with_reducible refine Kd.C_alloc ?_ _) | (with_reducible refine Kd.C_drewN ?_ _) | (with_reducible refine Kd.C_drew ?_))); (case side2 => exact (Kd.R_reads' HO139.out).2.1); rintro e w112 ⟨v142, rfl, ho0, hb⟩; refine ⟨_, rfl, ?_⟩; have n0_ := re HO_113001 (Kd.R_base ho0) hb; have n1_ := re HO_118001 (Kd.R_base ho0) hb; have n2_ := re HO_124001 (Kd.R_base ho0) hb; have n3_ := re HO139 (Kd.R_base ho0) hb; have n4_ := Aside0.mk (Kd.R_lower (Kd.R_new' (Kd.R_new' (Kd.R_new' (Kd.R_new' ho0 (Kd.R_lt (by (with_reducible repeat (first | apply Kd.R_alloc | apply Kd.R_drewN | apply Kd.R_drew)); exact HO_113001.out))) (Kd.R_lt (by (with_reducible repeat (first | apply Kd.R_alloc | apply Kd.R_drewN | apply Kd.R_drew)); exact HO_118001.out))) (Kd.R_lt (by (with_reducible repeat (first | apply Kd.R_alloc | apply Kd.R_drewN | apply Kd.R_drew)); exact HO_124001.out))) (Kd.R_lt (by (with_reducible repeat (first | apply Kd.R_alloc | apply Kd.R_drewN | apply Kd.R_drew)); exact HO139.out))) (below_size (by repeat (first | (with_reducible first | exact HB.out | apply below_alloc | apply pw_below_drewN | apply below_drew1 | refine below_set ?_ GE101.out | refine below_set ?_ GE112.out | refine below_set ?_ GE117.out | refine below_set ?_ GE123.out) | exact HB.out)))); have n5_ := bb BK101 hb; have n6_ := bb BK112 hb; have n7_ := bb BK117 hb; have n8_ := bb BK123 hb; have n9_ := bs4 HB hb GE101 GE112 GE117 GE123; clear HO_113001; clear HO_118001; clear HO_124001; clear HO139; clear BK101; clear BK112; clear BK117; clear BK123; clear HB; have HO_113001 := n0_; have HO_118001 := n1_; have HO_124001 := n2_; have HO139 := n3_; have HO143 := n4_; have BK101 := n5_; have BK112 := n6_; have BK117 := n7_; have BK123 := n8_; have HB := n9_; clear n0_ n1_ n2_ n3_ n4_ n5_ n6_ n7_ n8_ n9_; (try clear hb); (try clear hb2); (try clear hk); (try clear hi); (try clear ho0)) | ((with_reducible refine gate_dst (N := 18) rfl ?_); refine box_event ?hg (N := 18) ?hd (cs := #[.int .i64 0, .slice none 0 0]) (t := 29) ?hr ?_; (case hd => rfl); (case hg => rfl); (case hr => first | (go_simp; done) | (go_simp; rfl)); intro gb145 hg w113 hbox hb; have n0_ := rb HO_113001 hb; have n1_ := rb HO_118001 hb; have n2_ := rb HO_124001 hb; have n3_ := rb HO139 hb; have n4_ := rb HO143 hb; have n5_ := bb BK101 hb; have n6_ := bb BK112 hb; have n7_ := bb BK117 hb; have n8_ := bb BK123 hb; have n9_ := bs4 HB hb GE101 GE112 GE117 GE123; have n10_ := Aside0.mk (hbox); have n11_ := bz4 hg HB GE101 GE112 GE117 GE123; have n12_ := bz4 hg HB GE101 GE112 GE117 GE123; have n13_ := nl hg BK101; have n14_ := ng hg BK101; have n15_ := nl hg BK112; have n16_ := ng hg BK112; have n17_ := nl hg BK117; have n18_ := ng hg BK117; have n19_ := nl hg BK123; have n20_ := ng hg BK123; clear HO_113001; clear HO_118001; clear HO_124001; clear HO139; clear HO143; clear BK101; clear BK112; clear BK117; clear BK123; clear HB; have HO_113001 := n0_; have HO_118001 := n1_; have HO_124001 := n2_; have HO139 := n3_; have HO143 := n4_; have BK101 := n5_; have BK112 := n6_; have BK117 := n7_; have BK123 := n8_; have HB := n9_; have BK145 := n10_; have GW145 := n11_; have GE145 := n12_; have NB101_145 := n13_; have NB145_101 := n14_; have NB112_145 := n15_; have NB145_112 := n16_; have NB117_145 := n17_; have NB145_117 := n18_; have NB123_145 := n19_; have NB145_123 := n20_; clear n0_ n1_ n2_ n3_ n4_ n5_ n6_ n7_ n8_ n9_ n10_ n11_ n12_ n13_ n14_ n15_ n16_ n17_ n18_ n19_ n20_; clear hb hbox hg; have hnb114 := NB145_101.out; have hnc114 := NB101_145.out; have hnb115 := NB145_112.out; have hnc115 := NB112_145.out; have hnb116 := NB145_117.out; have hnc116 := NB117_145.out; have hnb117 := NB145_123.out; have hnc117 := NB123_145.out; have hcz118_0 : w113.cell? ⟨gb145, 0, none⟩ = some (.int .i64 0) := (blk_cell BK145.out 0).trans rfl; have hcz118_1 : w113.cell? ⟨gb145, 1, none⟩ = some (.slice none 0 0) := (blk_cell BK145.out 1).trans rfl; have hfz118_0 := blk_frozen BK145.out 0; have hfz118_1 := blk_frozen BK145.out 1; obtain ⟨Ao119, co119, eo119⟩ := Kd.R_slice HO143.out; subst eo119))
           (try simp only [Act.put, List.setIfInBounds_toArray, List.set_cons_zero, List.set_cons_succ])
           go_cut [102] (fun v102 wc => ∃ (kq : Nat) (x102_98 : Bool), v102 = .bool x102_98 ∧ Aside0 (laws_FnExactGraphIf.j2 kq t133 x102_98 t118 t134 = some r) ∧ Aside0 (kq ≤ kj62) ∧ Aside0 (Kd.R k79 79 wc w.heap.size (fun k_ => some k_ ≠ ((.slice Ao32 t131.length co32) : Value).ownBlock ∧ some k_ ≠ ((.slice Ao39 t119.length co39) : Value).ownBlock ∧ some k_ ≠ ((.slice Ao119 t141.length co119) : Value).ownBlock) (.slice Ao25 t108.length co25) t108) ∧ Aside0 (Kd.R k79 79 wc w.heap.size (fun k_ => some k_ ≠ ((.slice Ao25 t108.length co25) : Value).ownBlock ∧ some k_ ≠ ((.slice Ao39 t119.length co39) : Value).ownBlock ∧ some k_ ≠ ((.slice Ao119 t141.length co119) : Value).ownBlock) (.slice Ao32 t131.length co32) t131) ∧ Aside0 (Kd.R k79 79 wc w.heap.size (fun k_ => some k_ ≠ ((.slice Ao25 t108.length co25) : Value).ownBlock ∧ some k_ ≠ ((.slice Ao32 t131.length co32) : Value).ownBlock ∧ some k_ ≠ ((.slice Ao119 t141.length co119) : Value).ownBlock) (.slice Ao39 t119.length co39) t134) ∧ Aside0 (Kd.R k79 79 wc w.heap.size (fun k_ => some k_ ≠ ((.slice Ao25 t108.length co25) : Value).ownBlock ∧ some k_ ≠ ((.slice Ao32 t131.length co32) : Value).ownBlock ∧ some k_ ≠ ((.slice Ao39 t119.length co39) : Value).ownBlock) (.slice Ao119 t141.length co119) t141) ∧ Aside0 (wc.heap[gb101]? = some (.cells #[.int .i64 a0_0, (.slice A0_1 l0_1.length c0_1)] 24 (0, 0))) ∧ Aside0 (wc.heap[gb112]? = some (.cells #[.int .i64 t107, (.slice Ao25 t108.length co25)] 29 (0, 0))) ∧ Aside0 (wc.heap[gb117]? = some (.cells #[.int .i64 t113, (.slice Ao32 t131.length co32)] 29 (0, 0))) ∧ Aside0 (wc.heap[gb123]? = some (.cells #[.int .i64 t118, (.slice Ao39 t119.length co39)] 29 (0, 0))) ∧ Aside0 (wc.heap[gb145]? = some (.cells #[.int .i64 t140, (.slice Ao119 t141.length co119)] 29 (0, 0))) ∧ Aside0 (Below w.heap.size w wc))
           case first =>
            have H := HC99.out; clear HC99
            replace H := Option.bind_eq_some_iff.mp H
            obtain ⟨t146, A1200, H⟩ := H
            replace H : (if t146 = true then (laws_FnExactGraphIf.j2 kj62 t133 (t144 != t111) t118 t134) else (laws_FnExactGraphIf.j2 kj62 t133 true t118 t134)) = some r := H
            have A120 := Aside0.mk A1200; clear A1200
            by_cases c121 : t146 = true
            ·subst c121
             have H1 : (laws_FnExactGraphIf.j2 kj62 t133 (t144 != t111) t118 t134) = some r := by rw [if_pos rfl] at H; exact H
             clear H; have H := H1; clear H1
             have H' := Aside0.mk H
             clear H; have hnb122 := NB145_101.out; have hnc122 := NB101_145.out; have hnb123 := NB145_112.out; have hnc123 := NB112_145.out; have hnb124 := NB145_117.out; have hnc124 := NB117_145.out; have hnb125 := NB145_123.out; have hnc125 := NB123_145.out; have hcz126_0 : w113.cell? ⟨gb145, 0, none⟩ = some (.int .i64 0) := (blk_cell BK145.out 0).trans rfl; have hcz126_1 : w113.cell? ⟨gb145, 1, none⟩ = some (.slice none 0 0) := (blk_cell BK145.out 1).trans rfl; have hfz126_0 := blk_frozen BK145.out 0; have hfz126_1 := blk_frozen BK145.out 1; have hnb127 := NB112_101.out; have hnc127 := NB101_112.out; have hnb128 := NB112_117.out; have hnc128 := NB117_112.out; have hnb129 := NB112_123.out; have hnc129 := NB123_112.out; have hcz130_0 : w113.cell? ⟨gb112, 0, none⟩ = some (.int .i64 t107) := (blk_cell BK112.out 0).trans rfl; have hcz130_1 : w113.cell? ⟨gb112, 1, none⟩ = some (.slice Ao25 t108.length co25) := (blk_cell BK112.out 1).trans rfl; have hfz130_0 := blk_frozen BK112.out 0; have hfz130_1 := blk_frozen BK112.out 1
             go_wp2_with (first | ((with_reducible refine gate_callee (f := 19) rfl ?_); refine goesL_ (some 96) rfl rfl Try.func19 (by kernel_rfl) rfl #[.agg #[.int .i64 t140, .slice Ao119 t141.length co119], .agg #[.int .i64 t107, .slice Ao25 t108.length co25]] rfl (by (try simp only [List.map_toArray, List.map_cons, List.map_nil]); first | done | rfl | (simp only [List.length_drop, List.length_take]; rfl)) ?_; (with_reducible refine (laws_eqGraph.calls kj62 t140 _ _ t141 t107 _ _ t108 true _ ?side1 ?side2 ?side3 ?side4 A120.out).mono ?_); (case side1 => refine (Kd.R_reads' (e := 79) (base := w.heap.size) (ok := fun k_ => ((((True ∧ some k_ ≠ (.slice Ao25 t108.length co25 : Value).ownBlock) ∧ some k_ ≠ (.slice Ao32 t131.length co32 : Value).ownBlock) ∧ some k_ ≠ (.slice Ao39 t119.length co39 : Value).ownBlock) ∧ some k_ ≠ (.slice Ao111 t137.length co111 : Value).ownBlock)) (n := t141.length) (c := co119) ?_).2.2; exact (by (with_reducible repeat (first | apply Kd.R_alloc | apply Kd.R_drewN | apply Kd.R_drew)); exact (rf HO143 BK145))); (case side2 => exact (Kd.R_reads' HO143.out).2.1); (case side3 => refine (Kd.R_reads' (e := 79) (base := w.heap.size) (ok := fun k_ => (((some k_ ≠ (.slice Ao32 t131.length co32 : Value).ownBlock ∧ some k_ ≠ (.slice Ao39 t119.length co39 : Value).ownBlock) ∧ some k_ ≠ (.slice Ao111 t137.length co111 : Value).ownBlock) ∧ some k_ ≠ (.slice Ao119 t141.length co119 : Value).ownBlock)) (n := t108.length) (c := co25) ?_).2.2; exact (by (with_reducible repeat (first | apply Kd.R_alloc | apply Kd.R_drewN | apply Kd.R_drew)); exact (rf HO_113001 BK145))); (case side4 => exact (Kd.R_reads' HO_113001.out).2.1); rintro e w131 ⟨rfl, hb⟩; refine ⟨_, rfl, ?_⟩; have n0_ := rbf HO_113001 BK145 hb; have n1_ := rbf HO_118001 BK145 hb; have n2_ := rbf HO_124001 BK145 hb; have n3_ := rbf HO139 BK145 hb; have n4_ := rbf HO143 BK145 hb; have n5_ := Aside0.mk (blk_below (dq BK101 NB101_145) hb); have n6_ := Aside0.mk (blk_below (dq BK112 NB112_145) hb); have n7_ := Aside0.mk (blk_below (dq BK117 NB117_145) hb); have n8_ := Aside0.mk (blk_below (dq BK123 NB123_145) hb); have n9_ := Aside0.mk (blk_below (g := gb145) (o := .cells #[.int .i64 t140, .slice Ao119 t141.length co119] 29 (0, 0)) (by (with_reducible repeat (first | refine blk_drewN ?_ _ | refine blk_drew ?_ | refine blk_alloc ?_ _)); exact bp2 BK145.out) hb); have n10_ := Aside0.mk (below_step (by repeat (first | (with_reducible first | exact HB.out | apply below_alloc | apply pw_below_drewN | apply below_drew1 | refine below_set ?_ GE101.out | refine below_set ?_ GE112.out | refine below_set ?_ GE117.out | refine below_set ?_ GE123.out | refine below_set ?_ GE145.out) | exact HB.out)) hb); clear HO_113001; clear HO_118001; clear HO_124001; clear HO139; clear HO143; clear BK101; clear BK112; clear BK117; clear BK123; clear BK145; clear HB; have HO_113001 := n0_; have HO_118001 := n1_; have HO_124001 := n2_; have HO139 := n3_; have HO143 := n4_; have BK101 := n5_; have BK112 := n6_; have BK117 := n7_; have BK123 := n8_; have BK145 := n9_; have HB := n10_; clear n0_ n1_ n2_ n3_ n4_ n5_ n6_ n7_ n8_ n9_ n10_; (try clear hb); (try clear hb2); (try clear hk); (try clear hi)))
             go_meet
             case rel => exact ⟨_, ((t144 != t111)), (by first | rfl | (simp; done) | (simp [*]; done)), H', ⟨by have := HJ13.out; have := HJ62.out; first | omega | exact Nat.le_refl _⟩, ⟨by (try simp only [hl118001_62]); (with_reducible repeat (first | apply Kd.R_alloc | apply Kd.R_drewN | apply Kd.R_drew)); exact Kd.R_mono HO_113001.out (fun _ hk => ⟨hk.1.1.1, ⟨hk.1.1.2, hk.2⟩⟩)⟩, ⟨by (try simp only [hl118001_62]); (with_reducible repeat (first | apply Kd.R_alloc | apply Kd.R_drewN | apply Kd.R_drew)); exact Kd.R_mono HO_118001.out (fun _ hk => ⟨hk.1.1.1, ⟨hk.1.1.2, hk.2⟩⟩)⟩, ⟨by (try simp only [hl118001_62]); (with_reducible repeat (first | apply Kd.R_alloc | apply Kd.R_drewN | apply Kd.R_drew)); exact Kd.R_mono HO_124001.out (fun _ hk => ⟨hk.1.1.1, ⟨hk.1.1.2, hk.2⟩⟩)⟩, ⟨by (try simp only [hl118001_62]); (with_reducible repeat (first | apply Kd.R_alloc | apply Kd.R_drewN | apply Kd.R_drew)); exact Kd.R_mono HO143.out (fun _ hk => ⟨hk.1.1.1.2, ⟨hk.1.1.2, hk.1.2⟩⟩)⟩, ⟨by (try simp only [hl118001_62]); (with_reducible repeat (first | refine blk_drewN ?_ _ | refine blk_drew ?_ | refine blk_alloc ?_ _)); exact BK101.out⟩, ⟨by (try simp only [hl118001_62]); (with_reducible repeat (first | refine blk_drewN ?_ _ | refine blk_drew ?_ | refine blk_alloc ?_ _)); exact BK112.out⟩, ⟨by (try simp only [hl118001_62]); (with_reducible repeat (first | refine blk_drewN ?_ _ | refine blk_drew ?_ | refine blk_alloc ?_ _)); exact BK117.out⟩, ⟨by (try simp only [hl118001_62]); (with_reducible repeat (first | refine blk_drewN ?_ _ | refine blk_drew ?_ | refine blk_alloc ?_ _)); exact BK123.out⟩, ⟨by (try simp only [hl118001_62]); (with_reducible repeat (first | refine blk_drewN ?_ _ | refine blk_drew ?_ | refine blk_alloc ?_ _)); exact BK145.out⟩, ⟨by repeat (first | (with_reducible first | exact HB.out | apply below_alloc | apply pw_below_drewN | apply below_drew1 | refine below_set ?_ GE101.out | refine below_set ?_ GE112.out | refine below_set ?_ GE117.out | refine below_set ?_ GE123.out | refine below_set ?_ GE145.out) | exact HB.out)⟩⟩
            ·replace c121 := Bool.eq_false_iff.mpr c121
             subst c121
             have H1 : (laws_FnExactGraphIf.j2 kj62 t133 true t118 t134) = some r := by rw [if_neg (show ¬ (false = true) by decide)] at H; exact H
             clear H; have H := H1; clear H1
             have H' := Aside0.mk H
             clear H; have hnb132 := NB145_101.out; have hnc132 := NB101_145.out; have hnb133 := NB145_112.out; have hnc133 := NB112_145.out; have hnb134 := NB145_117.out; have hnc134 := NB117_145.out; have hnb135 := NB145_123.out; have hnc135 := NB123_145.out; have hcz136_0 : w113.cell? ⟨gb145, 0, none⟩ = some (.int .i64 0) := (blk_cell BK145.out 0).trans rfl; have hcz136_1 : w113.cell? ⟨gb145, 1, none⟩ = some (.slice none 0 0) := (blk_cell BK145.out 1).trans rfl; have hfz136_0 := blk_frozen BK145.out 0; have hfz136_1 := blk_frozen BK145.out 1; have hnb137 := NB112_101.out; have hnc137 := NB101_112.out; have hnb138 := NB112_117.out; have hnc138 := NB117_112.out; have hnb139 := NB112_123.out; have hnc139 := NB123_112.out; have hcz140_0 : w113.cell? ⟨gb112, 0, none⟩ = some (.int .i64 t107) := (blk_cell BK112.out 0).trans rfl; have hcz140_1 : w113.cell? ⟨gb112, 1, none⟩ = some (.slice Ao25 t108.length co25) := (blk_cell BK112.out 1).trans rfl; have hfz140_0 := blk_frozen BK112.out 0; have hfz140_1 := blk_frozen BK112.out 1
             go_wp2_with (first | ((with_reducible refine gate_callee (f := 19) rfl ?_); refine goesL_ (some 96) rfl rfl Try.func19 (by kernel_rfl) rfl #[.agg #[.int .i64 t140, .slice Ao119 t141.length co119], .agg #[.int .i64 t107, .slice Ao25 t108.length co25]] rfl (by (try simp only [List.map_toArray, List.map_cons, List.map_nil]); first | done | rfl | (simp only [List.length_drop, List.length_take]; rfl)) ?_; (with_reducible refine (laws_eqGraph.calls kj62 t140 _ _ t141 t107 _ _ t108 false _ ?side1 ?side2 ?side3 ?side4 A120.out).mono ?_); (case side1 => refine (Kd.R_reads' (e := 79) (base := w.heap.size) (ok := fun k_ => ((((True ∧ some k_ ≠ (.slice Ao25 t108.length co25 : Value).ownBlock) ∧ some k_ ≠ (.slice Ao32 t131.length co32 : Value).ownBlock) ∧ some k_ ≠ (.slice Ao39 t119.length co39 : Value).ownBlock) ∧ some k_ ≠ (.slice Ao111 t137.length co111 : Value).ownBlock)) (n := t141.length) (c := co119) ?_).2.2; exact (by (with_reducible repeat (first | apply Kd.R_alloc | apply Kd.R_drewN | apply Kd.R_drew)); exact (rf HO143 BK145))); (case side2 => exact (Kd.R_reads' HO143.out).2.1); (case side3 => refine (Kd.R_reads' (e := 79) (base := w.heap.size) (ok := fun k_ => (((some k_ ≠ (.slice Ao32 t131.length co32 : Value).ownBlock ∧ some k_ ≠ (.slice Ao39 t119.length co39 : Value).ownBlock) ∧ some k_ ≠ (.slice Ao111 t137.length co111 : Value).ownBlock) ∧ some k_ ≠ (.slice Ao119 t141.length co119 : Value).ownBlock)) (n := t108.length) (c := co25) ?_).2.2; exact (by (with_reducible repeat (first | apply Kd.R_alloc | apply Kd.R_drewN | apply Kd.R_drew)); exact (rf HO_113001 BK145))); (case side4 => exact (Kd.R_reads' HO_113001.out).2.1); rintro e w141 ⟨rfl, hb⟩; refine ⟨_, rfl, ?_⟩; have n0_ := rbf HO_113001 BK145 hb; have n1_ := rbf HO_118001 BK145 hb; have n2_ := rbf HO_124001 BK145 hb; have n3_ := rbf HO139 BK145 hb; have n4_ := rbf HO143 BK145 hb; have n5_ := Aside0.mk (blk_below (dq BK101 NB101_145) hb); have n6_ := Aside0.mk (blk_below (dq BK112 NB112_145) hb); have n7_ := Aside0.mk (blk_below (dq BK117 NB117_145) hb); have n8_ := Aside0.mk (blk_below (dq BK123 NB123_145) hb); have n9_ := Aside0.mk (blk_below (g := gb145) (o := .cells #[.int .i64 t140, .slice Ao119 t141.length co119] 29 (0, 0)) (by (with_reducible repeat (first | refine blk_drewN ?_ _ | refine blk_drew ?_ | refine blk_alloc ?_ _)); exact bp2 BK145.out) hb); have n10_ := Aside0.mk (below_step (by repeat (first | (with_reducible first | exact HB.out | apply below_alloc | apply pw_below_drewN | apply below_drew1 | refine below_set ?_ GE101.out | refine below_set ?_ GE112.out | refine below_set ?_ GE117.out | refine below_set ?_ GE123.out | refine below_set ?_ GE145.out) | exact HB.out)) hb); clear HO_113001; clear HO_118001; clear HO_124001; clear HO139; clear HO143; clear BK101; clear BK112; clear BK117; clear BK123; clear BK145; clear HB; have HO_113001 := n0_; have HO_118001 := n1_; have HO_124001 := n2_; have HO139 := n3_; have HO143 := n4_; have BK101 := n5_; have BK112 := n6_; have BK117 := n7_; have BK123 := n8_; have BK145 := n9_; have HB := n10_; clear n0_ n1_ n2_ n3_ n4_ n5_ n6_ n7_ n8_ n9_ n10_; (try clear hb); (try clear hb2); (try clear hk); (try clear hi)))
             go_meet
             case rel => exact ⟨_, (true), (by first | rfl | (simp; done) | (simp [*]; done)), H', ⟨by have := HJ13.out; have := HJ62.out; first | omega | exact Nat.le_refl _⟩, ⟨by (try simp only [hl118001_62]); (with_reducible repeat (first | apply Kd.R_alloc | apply Kd.R_drewN | apply Kd.R_drew)); exact Kd.R_mono HO_113001.out (fun _ hk => ⟨hk.1.1.1, ⟨hk.1.1.2, hk.2⟩⟩)⟩, ⟨by (try simp only [hl118001_62]); (with_reducible repeat (first | apply Kd.R_alloc | apply Kd.R_drewN | apply Kd.R_drew)); exact Kd.R_mono HO_118001.out (fun _ hk => ⟨hk.1.1.1, ⟨hk.1.1.2, hk.2⟩⟩)⟩, ⟨by (try simp only [hl118001_62]); (with_reducible repeat (first | apply Kd.R_alloc | apply Kd.R_drewN | apply Kd.R_drew)); exact Kd.R_mono HO_124001.out (fun _ hk => ⟨hk.1.1.1, ⟨hk.1.1.2, hk.2⟩⟩)⟩, ⟨by (try simp only [hl118001_62]); (with_reducible repeat (first | apply Kd.R_alloc | apply Kd.R_drewN | apply Kd.R_drew)); exact Kd.R_mono HO143.out (fun _ hk => ⟨hk.1.1.1.2, ⟨hk.1.1.2, hk.1.2⟩⟩)⟩, ⟨by (try simp only [hl118001_62]); (with_reducible repeat (first | refine blk_drewN ?_ _ | refine blk_drew ?_ | refine blk_alloc ?_ _)); exact BK101.out⟩, ⟨by (try simp only [hl118001_62]); (with_reducible repeat (first | refine blk_drewN ?_ _ | refine blk_drew ?_ | refine blk_alloc ?_ _)); exact BK112.out⟩, ⟨by (try simp only [hl118001_62]); (with_reducible repeat (first | refine blk_drewN ?_ _ | refine blk_drew ?_ | refine blk_alloc ?_ _)); exact BK117.out⟩, ⟨by (try simp only [hl118001_62]); (with_reducible repeat (first | refine blk_drewN ?_ _ | refine blk_drew ?_ | refine blk_alloc ?_ _)); exact BK123.out⟩, ⟨by (try simp only [hl118001_62]); (with_reducible repeat (first | refine blk_drewN ?_ _ | refine blk_drew ?_ | refine blk_alloc ?_ _)); exact BK145.out⟩, ⟨by repeat (first | (with_reducible first | exact HB.out | apply below_alloc | apply pw_below_drewN | apply below_drew1 | refine below_set ?_ GE101.out | refine below_set ?_ GE112.out | refine below_set ?_ GE117.out | refine below_set ?_ GE123.out | refine below_set ?_ GE145.out) | exact HB.out)⟩⟩
           case rest =>
            clear HC99
            (try clear c1); (try clear c2); (try clear p2); (try clear c3); (try clear c4); (try clear c5); (try clear c6); (try clear c6b0); (try clear c7); (try clear c8); (try clear c9); (try clear c10); (try clear c11); (try clear c12); (try clear c13); (try clear c15); (try clear c17); (try clear c19); (try clear c23); (try clear c29); (try clear c30); (try clear c31); (try clear c32); (try clear c35); (try clear c36); (try clear c37); (try clear c41); (try clear c42); (try clear c43); (try clear c44); (try clear c46); (try clear c47); (try clear c50); (try clear c51); (try clear c52); (try clear c54); (try clear c55); (try clear c58); (try clear c61); (try clear c68); (try clear c69); (try clear c70); (try clear c73); (try clear c73b0); (try clear c75); (try clear c76); (try clear c77); (try clear c78); (try clear c80); (try clear c81); (try clear c84); (try clear c85); (try clear c86); (try clear c88); (try clear c89); (try clear c92); (try clear c95); (try clear c95b0); (try clear c96); (try clear c96b0); (try clear c96b1); (try clear c100); (try clear c101); (try clear c102); (try clear c107); (try clear c108); (try clear c114); (try clear c115); (try clear c116); (try clear c117); (try clear c121); (try clear c122); (try clear c123); (try clear c124); (try clear c125); (try clear c127); (try clear c128); (try clear c129); (try clear c132); (try clear c133); (try clear c134); (try clear c135); (try clear c137); (try clear c138); (try clear c139); (try clear hcz103_0); (try clear hcz103_1); (try clear hcz105_0); (try clear hcz105_1); (try clear hcz109_0); (try clear hcz109_1); (try clear hcz118_0); (try clear hcz118_1); (try clear hcz126_0); (try clear hcz126_1); (try clear hcz130_0); (try clear hcz130_1); (try clear hcz136_0); (try clear hcz136_1); (try clear hcz140_0); (try clear hcz140_1); (try clear hcz16_0); (try clear hcz16_1); (try clear hcz18_0); (try clear hcz18_1); (try clear hcz24_0); (try clear hcz24_1); (try clear hcz26_0); (try clear hcz26_1); (try clear hcz31_0); (try clear hcz31_1); (try clear hcz38_0); (try clear hcz38_1); (try clear hcz45_0); (try clear hcz45_1); (try clear hcz48_0); (try clear hcz48_1); (try clear hcz53_0); (try clear hcz53_1); (try clear hcz56_0); (try clear hcz56_1); (try clear hcz71_0); (try clear hcz71_1); (try clear hcz79_0); (try clear hcz79_1); (try clear hcz82_0); (try clear hcz82_1); (try clear hcz87_0); (try clear hcz87_1); (try clear hcz8_0); (try clear hcz8_1); (try clear hcz90_0); (try clear hcz90_1); (try clear hfz103_0); (try clear hfz103_1); (try clear hfz105_0); (try clear hfz105_1); (try clear hfz109_0); (try clear hfz109_1); (try clear hfz118_0); (try clear hfz118_1); (try clear hfz126_0); (try clear hfz126_1); (try clear hfz130_0); (try clear hfz130_1); (try clear hfz136_0); (try clear hfz136_1); (try clear hfz140_0); (try clear hfz140_1); (try clear hfz16_0); (try clear hfz16_1); (try clear hfz18_0); (try clear hfz18_1); (try clear hfz24_0); (try clear hfz24_1); (try clear hfz26_0); (try clear hfz26_1); (try clear hfz31_0); (try clear hfz31_1); (try clear hfz38_0); (try clear hfz38_1); (try clear hfz45_0); (try clear hfz45_1); (try clear hfz48_0); (try clear hfz48_1); (try clear hfz53_0); (try clear hfz53_1); (try clear hfz56_0); (try clear hfz56_1); (try clear hfz71_0); (try clear hfz71_1); (try clear hfz79_0); (try clear hfz79_1); (try clear hfz82_0); (try clear hfz82_1); (try clear hfz87_0); (try clear hfz87_1); (try clear hfz8_0); (try clear hfz8_1); (try clear hfz90_0); (try clear hfz90_1); (try clear p2)
            obtain ⟨kq, x102_98, rfl, HA, HJ98, HO_113001, HO_118001, HO_124001, HO_146001, BK101, BK112, BK117, BK123, BK145, HB⟩ := hcut
            have hl124001_98 := (Kd.R_reads' HO_124001.out).1
            rw [hl124001_98] at HO_124001
            (try simp only [hl124001_98])
            (try simp only [hl124001_98] at BK101)
            (try simp only [hl124001_98] at BK112)
            (try simp only [hl124001_98] at BK117)
            (try simp only [hl124001_98] at BK123)
            (try simp only [hl124001_98] at BK145)
            (try simp only [hl124001_98] at HO_113001)
            (try simp only [hl124001_98] at HO_118001)
            (try simp only [hl124001_98] at HO_146001)
            cases kq with
                        | zero => exact absurd HA.out (by simp [laws_FnExactGraphIf.j2])
                        | succ kj98 =>
             have H := HA.out; clear HA
             simp only [laws_FnExactGraphIf.j2] at H
             by_cases c142 : x102_98 = true
             ·subst c142
              have H1 : (some false) = some r := by rw [if_pos rfl] at H; exact H
              clear H; have H := H1; clear H1
              exact absurd ((Option.some.inj H).trans HT.out) (by decide)
             ·replace c142 := Bool.eq_false_iff.mpr c142
              subst c142
              have H1 : ((laws_heldGraph.f kj98 t118 t134 1).bind fun t147 => (if t147 < 0 then (some false) else (if t147 = t133 then (some true) else (some false)))) = some r := by rw [if_neg (show ¬ (false = true) by decide)] at H; exact H
              clear H; have H := H1; clear H1
              replace H := Option.bind_eq_some_iff.mp H
              obtain ⟨t147, A1430, H⟩ := H
              replace H : (if t147 < 0 then (some false) else (if t147 = t133 then (some true) else (some false))) = some r := H
              have A143 := Aside0.mk A1430; clear A1430
              by_cases c144 : t147 < 0
              ·rw [if_pos c144] at H
               have c144b0 : decide (t147 < 0) = true := decide_eq_true c144; clear c144
               exact absurd ((Option.some.inj H).trans HT.out) (by decide)
              ·rw [if_neg c144] at H
               have c144b0 : decide (t147 < 0) = false := decide_eq_false c144; clear c144
               by_cases c145 : t147 = t133
               ·rw [if_pos c145] at H
                have c145b0 : (t147 == t133) = true := beq_iff_eq.mpr c145; have c145b1 : (t147 != t133) = false := bne_eq_false_iff_eq.mpr c145; clear c145
                obtain rfl := Option.some.inj H
                have hnb146 := NB123_101.out; have hnc146 := NB101_123.out; have hnb147 := NB123_112.out; have hnc147 := NB112_123.out; have hnb148 := NB123_117.out; have hnc148 := NB117_123.out; have hnb149 := NB123_145.out; have hnc149 := NB145_123.out; have hcz150_0 : wc.cell? ⟨gb123, 0, none⟩ = some (.int .i64 t118) := (blk_cell BK123.out 0).trans rfl; have hcz150_1 : wc.cell? ⟨gb123, 1, none⟩ = some (.slice Ao39 t134.length co39) := (blk_cell BK123.out 1).trans rfl; have hfz150_0 := blk_frozen BK123.out 0; have hfz150_1 := blk_frozen BK123.out 1
                go_wp2_with (first | ((with_reducible refine gate_callee (f := 32) rfl ?_); refine goesL_ (some 105) rfl rfl Try.func32 (by kernel_rfl) rfl #[.agg #[.int .i64 t118, .slice Ao39 t134.length co39], .int .i64 1] rfl (by (try simp only [List.map_toArray, List.map_cons, List.map_nil]); first | done | rfl | (simp only [List.length_drop, List.length_take]; rfl)) ?_; (with_reducible refine (laws_heldGraph.calls kj98 t118 _ _ t134 1 t147 _ ?side1 ?side2 A143.out).mono ?_); (case side1 => repeat (first | exact (Kd.R_reads' HO_124001.out).2.2 | (with_reducible refine Kd.C_alloc ?_ _) | (with_reducible refine Kd.C_drewN ?_ _) | (with_reducible refine Kd.C_drew ?_))); (case side2 => exact (Kd.R_reads' HO_124001.out).2.1); rintro e w151 ⟨rfl, hb⟩; refine ⟨_, rfl, ?_⟩; have n0_ := rb HO_113001 hb; have n1_ := rb HO_118001 hb; have n2_ := rb HO_124001 hb; have n3_ := rb HO_146001 hb; have n4_ := bb BK101 hb; have n5_ := bb BK112 hb; have n6_ := bb BK117 hb; have n7_ := bb BK123 hb; have n8_ := bb BK145 hb; have n9_ := Aside0.mk (below_step (by repeat (first | (with_reducible first | exact HB.out | apply below_alloc | apply pw_below_drewN | apply below_drew1 | refine below_set ?_ GE101.out | refine below_set ?_ GE112.out | refine below_set ?_ GE117.out | refine below_set ?_ GE123.out | refine below_set ?_ GE145.out) | exact HB.out)) hb); clear HO_113001; clear HO_118001; clear HO_124001; clear HO_146001; clear BK101; clear BK112; clear BK117; clear BK123; clear BK145; clear HB; have HO_113001 := n0_; have HO_118001 := n1_; have HO_124001 := n2_; have HO_146001 := n3_; have BK101 := n4_; have BK112 := n5_; have BK117 := n6_; have BK123 := n7_; have BK145 := n8_; have HB := n9_; clear n0_ n1_ n2_ n3_ n4_ n5_ n6_ n7_ n8_ n9_; (try clear hb); (try clear hb2); (try clear hk); (try clear hi)))
                go_ret
                exact ⟨by first | rfl | (simp [errW_none, errW_some] <;> rfl) | (simp [*, errW_none, errW_some] <;> rfl), by repeat (first | (with_reducible first | exact HB.out | apply below_alloc | apply pw_below_drewN | apply below_drew1 | refine below_set ?_ GE101.out | refine below_set ?_ GE112.out | refine below_set ?_ GE117.out | refine below_set ?_ GE123.out | refine below_set ?_ GE145.out) | exact HB.out)⟩
               ·rw [if_neg c145] at H
                have c145b0 : (t147 == t133) = false := beq_eq_false_iff_ne.mpr c145; have c145b1 : (t147 != t133) = true := bne_iff_ne.mpr c145
                exact absurd ((Option.some.inj H).trans HT.out) (by decide)
          ·rw [if_neg c96] at H
           have c96b0 : (t135 == t133) = false := beq_eq_false_iff_ne.mpr c96; have c96b1 : (t135 != t133) = true := bne_iff_ne.mpr c96
           exact absurd ((Option.some.inj H).trans HT.out) (by decide)
     ·replace c61 := Bool.eq_false_iff.mpr c61
      subst c61
      have H1 : (some false) = some r := by rw [if_neg (show ¬ (false = true) by decide)] at H; exact H
      clear H; have H := H1; clear H1
      exact absurd ((Option.some.inj H).trans HT.out) (by decide)

end Go.Proofs.Yteagogcpbcickaa.G
/- Plain lemmas about rounds, whole numbers, lists and strings, for the pure statements of this seat. Conditions: each lemma's own hypotheses. -/
set_option linter.unusedSimpArgs false
set_option linter.unusedVariables false
namespace Go.Proofs.Yteagogcpbcickaa.Pure
open Go.RowKit Go.Proofs.YteagogcpbcickaaW.PrintWords Go.Proofs.YteagogcpbcickaaW.PrintLast Go.Proofs.YteagogcpbcickaaW.PrintMore

/-- A loop that goes n rounds from state 0 on and then tells r. -/
theorem rounds {R : Type} (L : Nat → Nat → Option R) (n : Nat) (r : R) (step : ∀ k i, i < n → L (k + 1) i = L k (i + 1)) (stop : ∀ k, L (k + 1) n = some r) : ∀ k, n < k → L k 0 = some r := by
  have h : ∀ d i k, i + d = n → d < k → L k i = some r := by
    intro d
    induction d with
    | zero =>
      intro i k hi hk
      obtain ⟨k, rfl⟩ : ∃ m, k = m + 1 := ⟨k - 1, by omega⟩
      obtain rfl : i = n := by omega
      exact stop k
    | succ d ih =>
      intro i k hi hk
      obtain ⟨k, rfl⟩ : ∃ m, k = m + 1 := ⟨k - 1, by omega⟩
      rw [step k i (by omega)]
      exact ih (i + 1) k (by omega) (by omega)
  exact fun k hk => h n 0 k (by omega) hk
/-- The same where each round, and the end, asks for m rounds more (calls inside). -/
theorem rounds_ {R : Type} (m : Nat) (L : Nat → Nat → Option R) (n : Nat) (r : R) (step : ∀ k i, m ≤ k → i < n → L (k + 1) i = L k (i + 1)) (stop : ∀ k, m ≤ k → L (k + 1) n = some r) : ∀ k, n + m < k → L k 0 = some r := by
  have h : ∀ d i k, i + d = n → d + m < k → L k i = some r := by
    intro d
    induction d with
    | zero =>
      intro i k hi hk
      obtain ⟨k, rfl⟩ : ∃ m, k = m + 1 := ⟨k - 1, by omega⟩
      obtain rfl : i = n := by omega
      exact stop k (by omega)
    | succ d ih =>
      intro i k hi hk
      obtain ⟨k, rfl⟩ : ∃ m, k = m + 1 := ⟨k - 1, by omega⟩
      rw [step k i (by omega) (by omega)]
      exact ih (i + 1) k (by omega) (by omega)
  exact fun k hk => h n 0 k (by omega) hk
/-- A loop that goes on while p holds: where it ends, and with how many rounds left. -/
theorem rounds_to {R : Type} (L : Nat → Nat → R) (n : Nat) (p : Nat → Bool) (S E : Nat → R) (step : ∀ k i, i < n → (∀ j, j < i → p j = true) → p i = true → L (k + 1) i = L k (i + 1))
    (exit : ∀ k i, i < n → (∀ j, j < i → p j = true) → p i = false → L (k + 1) i = E k) (stop : ∀ k, (∀ j, j < n → p j = true) → L (k + 1) n = S k) :
    ∀ k, n < k → ∃ j, k - n - 1 ≤ j ∧ j < k ∧ L k 0 = if (List.range n).all p then S j else E j := by
  have h : ∀ d i k, i + d = n → d < k → (∀ j, j < i → p j = true) → ∃ j, k - d - 1 ≤ j ∧ j < k ∧ L k i = if (List.range n).all p then S j else E j := by
    intro d
    induction d with
    | zero =>
      intro i k hi hk hp
      obtain ⟨k, rfl⟩ : ∃ m, k = m + 1 := ⟨k - 1, by omega⟩
      obtain rfl : i = n := by omega
      refine ⟨k, by omega, by omega, ?_⟩
      rw [stop k hp, if_pos (List.all_eq_true.2 fun x hx => hp x (by simpa using hx))]
    | succ d ih =>
      intro i k hi hk hp
      obtain ⟨k, rfl⟩ : ∃ m, k = m + 1 := ⟨k - 1, by omega⟩
      cases hpi : p i with
      | true =>
        obtain ⟨j, h1, h2, h3⟩ := ih (i + 1) k (by omega) (by omega) (fun j hj => by
          rcases Nat.eq_or_lt_of_le (Nat.lt_succ_iff.1 hj) with e | e
          · exact e ▸ hpi
          · exact hp j e)
        exact ⟨j, by omega, by omega, (step k i (by omega) hp hpi).trans h3⟩
      | false =>
        refine ⟨k, by omega, by omega, ?_⟩
        rw [exit k i (by omega) hp hpi, if_neg (fun ha => by have := List.all_eq_true.1 ha i (by simp; omega); rw [hpi] at this; cases this)]
  exact fun k hk => h n 0 k (by omega) hk (fun j hj => absurd hj (by omega))
/-- A search that ends with one of two answers. -/
theorem rounds_pre {R : Type} (L : Nat → Nat → Option R) (n : Nat) (p : Nat → Bool) (r bad : R) (step : ∀ k i, i < n → (∀ j, j < i → p j = true) → p i = true → L (k + 1) i = L k (i + 1))
    (exit : ∀ k i, i < n → (∀ j, j < i → p j = true) → p i = false → L (k + 1) i = some bad) (stop : ∀ k, (∀ j, j < n → p j = true) → L (k + 1) n = some r) :
    ∀ k, n < k → L k 0 = some (if (List.range n).all p then r else bad) := by
  intro k hk
  obtain ⟨j, _, _, h⟩ := rounds_to L n p (fun _ => some r) (fun _ => some bad) step exit stop k hk
  rw [h]
  split <;> rfl
theorem w64 {n : Int} (h0 : -9223372036854775808 ≤ n) (h1 : n ≤ 9223372036854775807) : wrap64 n = n := by
  unfold wrap64
  omega
theorem w64s (i : Nat) (h : i < 4611686018427387904) : wrap64 ((i : Int) + 1) = ((i + 1 : Nat) : Int) := by
  rw [w64 (by omega) (by omega)]
  omega
theorem wfi {a : Int} (h : (Lit.int .i64 a).wf = true) : -9223372036854775808 ≤ a ∧ a ≤ 9223372036854775807 := by
  have hmin : IntKind.i64.min = -9223372036854775808 := rfl
  have hmax : IntKind.i64.max = 9223372036854775807 := rfl
  simp only [Lit.wf, Bool.and_eq_true, decide_eq_true_eq] at h
  omega
theorem u64_of {a : Int} (h0 : 0 ≤ a) (h1 : a ≤ 18446744073709551615) : IntKind.u64.wrap a = a := by
  have h : IntKind.u64.wrap a = a % 18446744073709551616 := by
    simp [IntKind.wrap, IntKind.bits, IntKind.signed]
  rw [h]
  omega

/-! lists -/
theorem rd_nat (xs : List Int) (i : Nat) : rd xs (i : Int) = xs.getD i 0 := by unfold rd; simp
theorem rdOf_nat {α : Type} (d : α) (xs : List α) (i : Nat) : rdOf d xs (i : Int) = xs.getD i d := by unfold rdOf; simp
theorem getD_lt {α : Type} (xs : List α) (i : Nat) (d : α) (h : i < xs.length) : xs.getD i d = xs[i] := by
  rw [List.getD_eq_getElem?_getD, List.getElem?_eq_getElem h]
  rfl
theorem take_succ_getD {α : Type} (xs : List α) (i : Nat) (d : α) (h : i < xs.length) : xs.take (i + 1) = xs.take i ++ [xs.getD i d] := by
  rw [List.take_succ_eq_append_getElem h, getD_lt xs i d h]
/-- What is written from the front on. -/
theorem set_front {α : Type} (p l : List α) (i : Nat) (v : α) (hl : p.length = l.length) (h : i < l.length) (hv : p[i]? = some v) : (p.take i ++ l.drop i).set i v = p.take (i + 1) ++ l.drop (i + 1) := by
  apply List.ext_getElem?
  intro j
  by_cases hj : j = i
  · subst hj
    rw [List.getElem?_set_self (by simp; omega), List.getElem?_append_left (by simp; omega), List.getElem?_take_of_lt (by omega), hv]
  · rw [List.getElem?_set_ne (by omega)]
    rcases Nat.lt_or_ge j i with h1 | h1
    · rw [List.getElem?_append_left (by simp; omega), List.getElem?_append_left (by simp; omega), List.getElem?_take_of_lt (by omega), List.getElem?_take_of_lt (by omega)]
    · rw [List.getElem?_append_right (by simp; omega), List.getElem?_append_right (by simp; omega)]
      simp only [List.length_take, List.getElem?_drop]
      congr 1
      omega

/-! strings -/
theorem bt_nat (s : ByteArray) (i : Nat) (h : i < s.size) : bt s (i : Int) = (s[i].toNat : Int) := by
  unfold bt
  simp [h]
theorem toList_data (s : ByteArray) : s.toList = s.data.toList := ByteArray.toList_eq s
end Go.Proofs.Yteagogcpbcickaa.Pure
/- What holds with enough rounds: small words for it. Conditions: each lemma's own hypotheses. -/
set_option linter.unusedSimpArgs false
set_option linter.unusedVariables false
namespace Go.Proofs.Yteagogcpbcickaa.Pure
open Go.RowKit Go.Proofs.YteagogcpbcickaaW.PrintWords Go.Proofs.YteagogcpbcickaaW.PrintLast Go.Proofs.YteagogcpbcickaaW.PrintMore

theorem ev_some {α : Type} (r : α) : Ev (fun _ => some r) r := ⟨0, fun _ _ => rfl⟩
theorem ev_ge {α : Type} {g : Nat → Option α} {r : α} (n : Nat) (h : ∀ k, n < k → g k = some r) : Ev g r := ⟨n + 1, fun k hk => h k (by omega)⟩
theorem ev_step {α : Type} {g f : Nat → Option α} {r : α} (h : ∀ k, g (k + 1) = f k) (e : Ev f r) : Ev g r := by
  obtain ⟨K, e⟩ := e
  refine ⟨K + 1, fun k hk => ?_⟩
  obtain ⟨m, rfl⟩ : ∃ m, k = m + 1 := ⟨k - 1, by omega⟩
  rw [h m]
  exact e m (by omega)
theorem ev_eq {α : Type} {g f : Nat → Option α} {r : α} (h : ∀ k, g k = f k) (e : Ev f r) : Ev g r := by
  obtain ⟨K, e⟩ := e
  exact ⟨K, fun k hk => (h k).trans (e k hk)⟩
theorem ev_bind {α β : Type} {g : Nat → Option α} {f : Nat → α → Option β} {a : α} {r : β} (h : Ev g a) (e : Ev (fun n => f n a) r) : Ev (fun n => (g n).bind (f n)) r := by
  obtain ⟨K, h⟩ := h
  obtain ⟨M, e⟩ := e
  refine ⟨K + M, fun n hn => ?_⟩
  show (g n).bind (f n) = some r
  rw [h n (by omega)]
  exact e n (by omega)
theorem ev_rounds {α : Type} {g : Nat → Option α} {r : α} (h : Ev g r) : ∃ k, g k = some r := by
  obtain ⟨K, h⟩ := h
  exact ⟨K, h K (Nat.le_refl _)⟩
/-- Two answers of one thing are the same. -/
theorem ev_one {α : Type} {g : Nat → Option α} {a b : α} (h : Ev g a) (e : Ev g b) : a = b := by
  obtain ⟨K, h⟩ := h
  obtain ⟨M, e⟩ := e
  exact Option.some.inj ((h (K + M) (by omega)).symm.trans (e (K + M) (by omega)))
/-- A loop that goes from i on to n, and then as its end tells. -/
theorem ev_loop {α : Type} (L : Nat → Nat → Option α) (n : Nat) (r : α) (step : ∀ i, i < n → Ev (fun k => L k (i + 1)) r → Ev (fun k => L k i) r) (stop : Ev (fun k => L k n) r) : ∀ i, i ≤ n → Ev (fun k => L k i) r := by
  have h : ∀ d i, i + d = n → Ev (fun k => L k i) r := by
    intro d
    induction d with
    | zero =>
      intro i hi
      obtain rfl : i = n := by omega
      exact stop
    | succ d ih => intro i hi; exact step i (by omega) (ih (i + 1) (by omega))
  exact fun i hi => h (n - i) i (by omega)
end Go.Proofs.Yteagogcpbcickaa.Pure
/- Graphs: copies, comparisons, and which are right. Conditions: each lemma's own hypotheses. -/
set_option linter.unusedSimpArgs false
set_option linter.unusedVariables false
namespace Go.Proofs.Yteagogcpbcickaa.Pure
open Go.RowKit Go.Proofs.Yteagogcpbcickaa.G Go.Proofs.YteagogcpbcickaaW.PrintWords Go.Proofs.YteagogcpbcickaaW.PrintLast Go.Proofs.YteagogcpbcickaaW.PrintMore

/-- A statement's own list of ands as the program's. -/
def cvA (l : List S116) : List S79 := l.map fun x => ⟨x.f0, x.f1⟩
theorem cvA_length (l : List S116) : (cvA l).length = l.length := by simp [cvA]
def WfA (L : List S79) : Prop := ∀ x ∈ L, (Lit.int .i64 x.f0).wf = true ∧ (Lit.int .i64 x.f1).wf = true
theorem cvA_wf {l : List S116} (h : ∀ x_ ∈ l, ((Lit.int .i64 x_.f0).wf = true ∧ (Lit.int .i64 x_.f1).wf = true)) : WfA (cvA l) := by
  intro x hx
  simp only [cvA, List.mem_map] at hx
  obtain ⟨y, hy, rfl⟩ := hx
  exact h y hy
theorem rdA_nat (L : List S79) (i : Nat) : rd_T79 L (i : Int) = L.getD i z79 := by unfold rd_T79; simp
theorem rdL_nat (L : List S116) (i : Nat) : rd_T116 L (i : Int) = L.getD i z116 := by unfold rd_T116; simp
theorem rdA_wf {L : List S79} (h : WfA L) {i : Nat} (hi : i < L.length) : (Lit.int .i64 (rd_T79 L i).f0).wf = true ∧ (Lit.int .i64 (rd_T79 L i).f1).wf = true := by
  rw [rdA_nat, getD_lt L i _ hi]
  exact h _ (List.getElem_mem hi)
theorem toAndS_eq (l : List S116) (hl : l.length ≤ 1099511627776) : ∀ k, l.length < k → laws_toAndS.f k l = some (cvA l) := by
  intro k hk
  unfold laws_toAndS.f
  rw [if_pos (by omega), if_pos (by omega), Int.toNat_natCast]
  have h := rounds (fun k i => laws_toAndS.l0 k l ((cvA l).take i ++ (List.replicate l.length z79).drop i) (i : Int)) l.length (cvA l) ?_ ?_ k hk
  · simpa using h
  · intro k i hi
    simp only [laws_toAndS.l0, laws_toAnd.f]
    rw [if_pos (by omega), if_pos (by omega), Option.bind_some, if_pos (by simp [cvA]; omega), rdL_nat, w64s i (by omega), Int.toNat_natCast, getD_lt l i _ hi, set_front (cvA l) (List.replicate l.length z79) i _ (by simp [cvA]) (by simpa using hi) (by simp [cvA, hi])]
  · intro k
    simp only [laws_toAndS.l0]
    rw [if_neg (by omega), List.take_of_length_le (by simp [cvA])]
    simp
theorem toGraph_eq (a : Int) (l : List S116) (hl : l.length ≤ 1099511627776) : ∀ k, l.length < k → laws_toGraph.f k a l = some (a, cvA l) := by
  intro k hk
  unfold laws_toGraph.f
  rw [toAndS_eq l hl k hk, Option.bind_some]
theorem eqAndS_self (l : List S79) (hl : l.length ≤ 1099511627776) : ∀ k, l.length < k → laws_eqAndS.f k l l = some true := by
  intro k hk
  unfold laws_eqAndS.f
  rw [if_pos rfl]
  refine rounds (fun k i => laws_eqAndS.l0 k l l (i : Int)) l.length true ?_ ?_ k hk
  · intro k i hi
    simp only [laws_eqAndS.l0, laws_eqAnd.f, if_true, Option.bind_some]
    rw [if_pos (by omega), if_pos (by omega), if_pos (by omega), w64s i (by omega)]
  · intro k
    simp only [laws_eqAndS.l0]
    rw [if_neg (by omega)]
theorem eqGraph_self (a : Int) (l : List S79) (hl : l.length ≤ 1099511627776) : ∀ k, l.length < k → laws_eqGraph.f k a l a l = some true := by
  intro k hk
  unfold laws_eqGraph.f
  rw [if_pos rfl, eqAndS_self l hl k hk, Option.bind_some, if_pos rfl]
theorem szGraph_eq (a : Int) (l : List S116) (hl : l.length ≤ maxLen) : laws_szGraph.f a l 1048576 = some (if (l.length : Int) > 1048576 then -1 else 1048576 - (l.length : Int)) := by
  unfold laws_szGraph.f laws_szAndS.f
  unfold maxLen at hl
  rw [w64 (by omega) (by omega)]
  split
  · rw [Option.bind_some, if_pos (by decide), if_pos (by omega)]
  · rw [Option.bind_some, if_neg (by omega), if_neg (by omega)]

theorem and_ext {x y : S79} (h0 : x.f0 = y.f0) (h1 : x.f1 = y.f1) : x = y := by cases x; cases y; simp_all
theorem mem_take_rd (L : List S79) (i : Nat) (hi : i ≤ L.length) (x : S79) : x ∈ L.take i ↔ ∃ j, j < i ∧ rd_T79 L (j : Int) = x := by
  rw [List.mem_iff_getElem]
  constructor
  · rintro ⟨j, hj, rfl⟩
    have hj' : j < i := by simp at hj; omega
    exact ⟨j, hj', by rw [rdA_nat, getD_lt L j _ (by omega)]; simp⟩
  · rintro ⟨j, hj, rfl⟩
    exact ⟨j, by simp; omega, by rw [rdA_nat, getD_lt L j _ (by omega)]; simp⟩
/-- The search for a node that stood there already. -/
theorem spec_l1_ev (ins : Int) (L : List S79) (hl : L.length ≤ 3000) (i : Nat) (hi : i < L.length) (r : Bool) (bad : rd_T79 L (i : Int) ∈ L.take i → r = false)
    (go : rd_T79 L (i : Int) ∉ L.take i → Ev (fun k => spec_GraphOk.l0 k ((i + 1 : Nat) : Int) ins L) r) : Ev (fun k => spec_GraphOk.l1 k (i : Int) 0 ins L) r := by
  have h : ∀ d j, j + d = i → (∀ q, q < j → rd_T79 L (q : Int) ≠ rd_T79 L (i : Int)) → Ev (fun k => spec_GraphOk.l1 k (i : Int) (j : Int) ins L) r := by
    intro d
    induction d with
    | zero =>
      intro j hj hq
      obtain rfl : j = i := by omega
      refine ev_step (f := fun k => spec_GraphOk.l0 k ((j + 1 : Nat) : Int) ins L) (fun k => ?_) (go (fun hm => ?_))
      · simp only [spec_GraphOk.l1]
        rw [if_neg (by omega), w64s j (by omega)]
      · obtain ⟨q, h1, h2⟩ := (mem_take_rd L j (by omega) _).1 hm
        exact hq q h1 h2
    | succ d ih =>
      intro j hj hq
      by_cases he : rd_T79 L (j : Int) = rd_T79 L (i : Int)
      · rw [bad ((mem_take_rd L i (by omega) _).2 ⟨j, by omega, he⟩)]
        refine ev_step (f := fun k => some false) (fun k => ?_) (ev_some _)
        simp only [spec_GraphOk.l1]
        rw [if_pos (by omega), if_pos (by omega), if_pos (by omega), if_pos (by omega), if_pos (by omega), if_pos (by rw [he]; simp)]
      · refine ev_step (f := fun k => spec_GraphOk.l1 k (i : Int) ((j + 1 : Nat) : Int) ins L) (fun k => ?_) (ih (j + 1) (by omega) (fun q hq' => ?_))
        · simp only [spec_GraphOk.l1]
          rw [if_pos (by omega), if_pos (by omega), if_pos (by omega), if_pos (by omega), if_pos (by omega), if_neg (fun hh => he ?_), w64s j (by omega)]
          simp only [Bool.and_eq_true, beq_iff_eq] at hh
          exact and_ext hh.1 hh.2
        · rcases Nat.lt_succ_iff_lt_or_eq.1 hq' with h1 | rfl
          · exact hq q h1
          · exact he
  have := h i 0 (by omega) (fun q hq => by omega)
  exact this
theorem tdiv2 {x : Int} (h : (Lit.int .i64 x).wf = true) : wrap64 (Int.tdiv x 2) = Int.tdiv x 2 := by
  have := wfi h
  have h2 : -9223372036854775808 ≤ Int.tdiv x 2 ∧ Int.tdiv x 2 ≤ 9223372036854775807 := by
    rw [Int.tdiv_eq_ediv]
    have h2 : Int.sign 2 = 1 := rfl
    split <;> omega
  exact w64 h2.1 h2.2
theorem spec_GraphOk_ev (ins : Int) (L : List S79) (hL : WfA L) (hins : (Lit.int .i64 ins).wf = true) : Ev (fun k => spec_GraphOk.f k ins L) (decide (GOk ins L)) := by
  have hj0t : ∀ b : Bool, b = true → ¬ GOk ins L → Ev (fun k => spec_GraphOk.j0 k b ins L) (decide (GOk ins L)) := by
    intro b hb hG
    rw [decide_eq_false hG]
    refine ev_step (f := fun _ => some false) (fun k => ?_) (ev_some _)
    simp only [spec_GraphOk.j0]
    rw [if_pos hb]
  refine ev_eq (f := fun k => if 0 ≤ ins ∧ ins ≤ 12 then spec_GraphOk.j0 k (decide ((L.length : Int) > 3000)) ins L else spec_GraphOk.j0 k true ins L) (fun k => ?_) ?_
  · unfold spec_GraphOk.f spec_l01In.f
    by_cases h0 : ins ≥ 0
    · rw [if_pos h0, Option.bind_some]
      by_cases h1 : ins ≤ 12
      · rw [if_pos (by simpa using h1), if_pos ⟨h0, h1⟩]
      · rw [if_neg (by simpa using h1), if_neg (fun h => h1 h.2)]
    · rw [if_neg h0, Option.bind_some, if_neg (by decide), if_neg (fun h => h0 h.1)]
  by_cases hin : 0 ≤ ins ∧ ins ≤ 12
  · simp only [if_pos hin]
    by_cases hlen : L.length ≤ 3000
    · rw [show decide ((L.length : Int) > 3000) = false from decide_eq_false (by omega)]
      refine ev_step (f := fun k => spec_GraphOk.l0 k ((0 : Nat) : Int) ins L) (fun k => by simp only [spec_GraphOk.j0]; rw [if_neg (by decide)]; rfl) ?_
      have hok : ∀ d i, i + d = L.length → (∀ j, j < i → okAnd ins L j) → Ev (fun k => spec_GraphOk.l0 k (i : Int) ins L) (decide (GOk ins L)) := by
        intro d
        induction d with
        | zero =>
          intro i hi hall
          rw [decide_eq_true (show GOk ins L from ⟨hin, hlen, fun j hj => hall j (by omega)⟩)]
          refine ev_step (f := fun _ => some true) (fun k => ?_) (ev_some _)
          simp only [spec_GraphOk.l0]
          rw [if_neg (by omega)]
        | succ d ih =>
          intro i hi hall
          have hlt : i < L.length := by omega
          obtain ⟨w0, w1⟩ := rdA_wf hL hlt
          have b0 := wfi w0
          have b1 := wfi w1
          have t0 := tdiv2 w0
          have t1 := tdiv2 w1
          have hq : wrap64 (ins + (i : Int)) = ins + i := w64 (by omega) (by omega)
          have bad : ¬ okAnd ins L i → Ev (fun k => spec_GraphOk.j2 k (i : Int) true ins L) (decide (GOk ins L)) := by
            intro hn
            rw [decide_eq_false (fun h : GOk ins L => hn (h.2.2 i hlt))]
            refine ev_step (f := fun _ => some false) (fun k => ?_) (ev_some _)
            simp only [spec_GraphOk.j2]
            rw [if_pos trivial]
          by_cases c1 : (rd_T79 L (i : Int)).f0 < 2
          · refine ev_step (fun k => ?_) (bad (fun h => h.1 c1))
            simp only [spec_GraphOk.l0]
            rw [if_pos (by omega), if_pos (by omega), if_pos c1]
          by_cases c2 : (rd_T79 L (i : Int)).f1 ≤ (rd_T79 L (i : Int)).f0
          · refine ev_step (fun k => ?_) (bad (fun h => h.2.1 c2))
            simp only [spec_GraphOk.l0]
            rw [if_pos (by omega), if_pos (by omega), if_neg c1, if_pos c2]
          have e0 : Int.tdiv (rd_T79 L (i : Int)).f0 2 = (rd_T79 L (i : Int)).f0 / 2 := Int.tdiv_eq_ediv_of_nonneg (by omega)
          have e1 : Int.tdiv (rd_T79 L (i : Int)).f1 2 = (rd_T79 L (i : Int)).f1 / 2 := Int.tdiv_eq_ediv_of_nonneg (by omega)
          by_cases c3 : wrap64 (Int.tdiv (rd_T79 L (i : Int)).f1 2) > wrap64 (ins + (i : Int))
          · refine ev_step (fun k => ?_) (bad (fun h => by
              have := h.2.2.2.1
              rw [t1, e1, hq] at c3
              omega))
            simp only [spec_GraphOk.l0]
            rw [if_pos (by omega), if_pos (by omega), if_neg c1, if_neg c2, if_pos c3]
          have c3' : (rd_T79 L (i : Int)).f1 < 2 * (ins + 1 + i) := by rw [t1, e1, hq] at c3; omega
          have hl0 : ∀ k, spec_GraphOk.l0 (k + 1) (i : Int) ins L = spec_GraphOk.j2 k (i : Int) (wrap64 (Int.tdiv (rd_T79 L (i : Int)).f1 2) == wrap64 (Int.tdiv (rd_T79 L (i : Int)).f0 2)) ins L := by
            intro k
            simp only [spec_GraphOk.l0]
            rw [if_pos (by omega), if_pos (by omega), if_neg c1, if_neg c2, if_neg c3]
          refine ev_step hl0 ?_
          by_cases c4 : wrap64 (Int.tdiv (rd_T79 L (i : Int)).f1 2) = wrap64 (Int.tdiv (rd_T79 L (i : Int)).f0 2)
          · rw [beq_iff_eq.2 c4]
            exact bad (fun h => h.2.2.1 c4.symm)
          · rw [beq_eq_false_iff_ne.2 c4]
            refine ev_step (f := fun k => spec_GraphOk.l1 k (i : Int) 0 ins L) (fun k => by simp only [spec_GraphOk.j2]; rw [if_neg (by decide)]) ?_
            refine spec_l1_ev ins L hlen i hlt _ (fun hm => ?_) (fun hm => ih (i + 1) (by omega) (fun j hj => ?_))
            · exact decide_eq_false (fun h : GOk ins L => (h.2.2 i hlt).2.2.2.2 hm)
            · rcases Nat.lt_succ_iff_lt_or_eq.1 hj with h1 | rfl
              · exact hall j h1
              · exact ⟨c1, c2, fun h => c4 h.symm, c3', hm⟩
      exact hok L.length 0 (by omega) (fun j hj => by omega)
    · exact hj0t _ (decide_eq_true (by omega)) (fun h => hlen h.2.1)
  · simp only [if_neg hin]
    exact hj0t _ rfl (fun h => hin h.1)
end Go.Proofs.Yteagogcpbcickaa.Pure
