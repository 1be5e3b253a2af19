-- texts of this session, merged by a program of it (wip/gen/pack.py)
import Derived.Test.YtlpfmhikahlcoaaKFnMachine2
import Derived.Test.YtlpfmhikahlcoaaKFnMachine3
import Derived.Test.YtlpfmhikahlcoaaKFnMachine6
import Derived.Test.YtlpfmhikahlcoaaKFnMachine7
import Derived.Test.YtlpfmhikahlcoaaKFnMachine8
import Derived.Test.YtlpfmhikahlcoaaKFnMachine9
namespace Go.Proofs.Ytlpfmhikahlcoaa.G
open Go.Proofs.Ytlpfmhikahlcoaa.Sh Go.RowKit Go.Proofs.YtlpfmhikahlcoaaW.PrintWords Go.Proofs.YtlpfmhikahlcoaaW.PrintLast Go.Proofs.YtlpfmhikahlcoaaW.PrintMore
attribute [local go_sem] max2_int min2_int max_two min_two max_three min_three max_four min_four   -- for this text's walks alone
set_option linter.unusedVariables false
set_option linter.unusedSimpArgs false
mutual
def laws_FnMachine.l0 : Nat → List Bool → Int → List Int → Int → Int → Int → ByteArray → Option (Bool)
  | 0, _, _, _, _, _, _, _ => none
  | k + 1, x3, x5, x26, x27, x28, x108000, x108001 => if x28 < x27 then (if 0 ≤ x28 then (if x28 < (x26.length : Int) then ((impl_MachineStart.f k x3 x108000 x108001 (rd x26 x28)).bind fun bt114 => (if bt114.2.2.2.2.2.2.2.2.2.2.2 = true then ((impl_MachineOk.f k bt114.1 bt114.2.1 bt114.2.2.1 bt114.2.2.2.1 bt114.2.2.2.2.1 bt114.2.2.2.2.2.1 bt114.2.2.2.2.2.2.1 bt114.2.2.2.2.2.2.2.1 bt114.2.2.2.2.2.2.2.2.1 bt114.2.2.2.2.2.2.2.2.2.1 bt114.2.2.2.2.2.2.2.2.2.2.1).bind fun t133 => (laws_FnMachine.j1 k x3 x5 (rd x26 x28) x26 x27 x28 (!t133) x108000 x108001 bt114.1 bt114.2.1 bt114.2.2.1 bt114.2.2.2.1 bt114.2.2.2.2.1 bt114.2.2.2.2.2.1 bt114.2.2.2.2.2.2.1 bt114.2.2.2.2.2.2.2.1 bt114.2.2.2.2.2.2.2.2.1 bt114.2.2.2.2.2.2.2.2.2.1 bt114.2.2.2.2.2.2.2.2.2.2.1)) else (laws_FnMachine.j1 k x3 x5 (rd x26 x28) x26 x27 x28 true x108000 x108001 bt114.1 bt114.2.1 bt114.2.2.1 bt114.2.2.2.1 bt114.2.2.2.2.1 bt114.2.2.2.2.2.1 bt114.2.2.2.2.2.2.1 bt114.2.2.2.2.2.2.2.1 bt114.2.2.2.2.2.2.2.2.1 bt114.2.2.2.2.2.2.2.2.2.1 bt114.2.2.2.2.2.2.2.2.2.2.1))) else (none)) else (none)) else (some true)
def laws_FnMachine.j1 : Nat → List Bool → Int → Int → List Int → Int → Int → Bool → Int → ByteArray → List Bool → Int → ByteArray → Int → List Int → Int → Bool → Int → Int → Int → List (S86) → Option (Bool)
  | 0, _, _, _, _, _, _, _, _, _, _, _, _, _, _, _, _, _, _, _, _ => none
  | k + 1, x3, x5, x8, x26, x27, x28, x45, x108000, x108001, x133000, x133001, x133002, x133003, x133004, x133005, x133006, x133007, x133008, x133009, x133010 => if x45 = true then (some false) else ((laws_pow.f k (wrap64 (x108000 + 1))).bind fun t134 => ((impl_MachineRun.f k x133000 x133001 x133002 x133003 x133004 x133005 x133006 x133007 x133008 x133009 x133010 (wrap64 ((wrap64 (3 * t134)) + 2))).bind fun bt135 => ((impl_MachineVerdict.f k bt135.1 bt135.2.1 bt135.2.2.1 bt135.2.2.2.1 bt135.2.2.2.2.1 bt135.2.2.2.2.2.1 bt135.2.2.2.2.2.2.1 bt135.2.2.2.2.2.2.2.1 bt135.2.2.2.2.2.2.2.2.1 bt135.2.2.2.2.2.2.2.2.2.1 bt135.2.2.2.2.2.2.2.2.2.2).bind fun bt152 => (if bt152.2 = true then (if bt152.1 = x5 then (if (bt135.2.2.2.2.2.2.2.2.2.2.length : Int) > x8 then (some false) else ((laws_pow.f k (wrap64 (x108000 + 1))).bind fun t154 => (if bt135.2.2.2.2.2.2.2.1 > (wrap64 ((wrap64 (3 * t154)) + 2)) then (some false) else (if x8 = 0 then (if bt135.2.2.2.2.2.2.2.2.2.1 = 0 then (laws_FnMachine.l0 k x3 x5 x26 x27 (wrap64 (x28 + 1)) x108000 x108001) else (some false)) else (laws_FnMachine.l0 k x3 x5 x26 x27 (wrap64 (x28 + 1)) x108000 x108001))))) else (some false)) else (some false)))))
end
def laws_FnMachine.f (k : Nat) (l0 : List Int) : Option (Bool) := (laws_big.f l0).bind fun t101 => (if t101 = true then (some true) else ((spec_DrawCase.f k l0).bind fun bt102 => ((spec_Decide.f k bt102.1 bt102.2.1 bt102.2.2).bind fun bt108 => ((some (([0, 1, 5, 40] : List Int) : List Int)).bind fun y110 => (laws_FnMachine.l0 k bt102.1 bt108.1 y110 (y110.length : Int) 0 bt102.2.1 bt102.2.2)))))
def laws_FnMachine.T11 : Bool × List (List Nat × List Nat) := (true, [([], []), ([], []), ([1], [1]), ([2], [2]), ([3], [3]), ([4], [4]), ([5], [5]), ([0, 6, 4], [0, 6]), ([7, 7, 0, 1, 2, 3, 4, 5, 6, 7], [7])])
def laws_FnMachine.B11 : List Nat := [0, 0, 2, 6, 14, 30, 62, 127, 255]
theorem laws_FnMachine.tab11 : rtab .any (opsOf Try.f11 11) = laws_FnMachine.T11 := by kernel_rfl
theorem laws_FnMachine.bits11 : waitsOk laws_FnMachine.T11.2 laws_FnMachine.B11 = true := by kernel_rfl
def laws_FnMachine.T13 : Bool × List (List Nat × List Nat) := (true, [([], []), ([0], [0]), ([1], [1]), ([2], [2]), ([2], [2]), ([3, 4, 2], [2, 3, 4]), ([2, 5], [2, 5]), ([6, 2], [6]), ([7], [7]), ([8, 7], [7, 8]), ([9, 7], [7, 9]), ([7], [7]), ([10, 11, 7], [7, 10, 11]), ([7, 12], [7, 12]), ([13, 7], [13]), ([14], [14]), ([15, 14], [14, 15]), ([14], [14]), ([17, 14], [14, 17]), ([18, 14], [14, 18]), ([19, 14, 14], [14, 19]), ([20, 14], [14, 20]), ([21, 14], [14, 21]), ([16, 22, 14], [14, 16, 22]), ([14, 23], [14, 23]), ([24, 20], [24]), ([25], [25]), ([26, 25], [25, 26]), ([27, 25, 25], [25, 27]), ([28], [28]), ([29, 28], [28, 29]), ([30, 28], [28, 30]), ([28, 31, 25], [25, 28, 31]), ([25, 32], [25, 32])])
def laws_FnMachine.B13 : List Nat := [0, 1, 3, 7, 7, 31, 63, 127, 255, 511, 1023, 255, 4095, 8191, 16383, 32767, 65535, 32767, 163839, 425983, 950271, 1998847, 4095999, 8388607, 16777215, 33554431, 67108863, 134217727, 268435455, 536870911, 1073741823, 2147483647, 4294967295, 8589934591]
theorem laws_FnMachine.tab13 : rtab .any (opsOf Try.f11 13) = laws_FnMachine.T13 := by kernel_rfl
theorem laws_FnMachine.bits13 : waitsOk laws_FnMachine.T13.2 laws_FnMachine.B13 = true := by kernel_rfl
set_option maxHeartbeats 80000000 in
set_option maxRecDepth 100000 in
theorem laws_FnMachine.calls (k : Nat) (A0 : Option Addr) (c0 : Nat) (l0 : List Int) (r : Bool) (w : World) (hr0 : Kd.C (Kd.int .u8) w A0 l0.length l0) (hc0 : l0.length ≤ c0) (ht_ : r = true) (h : laws_FnMachine.f k l0 = some r) :
  Calls Try.prog 11 #[.slice A0 l0.length c0] w fun e w' => e = .returned (.bool r) ∧ Below w.heap.size w w' := by
 have hu29 := Try.underlying29; have hu36 := Try.underlying36; have HT := Aside0.mk ht_; clear ht_; have HR0 := Aside0.mk hr0; have HC0 := Aside0.mk hc0; clear hr0 hc0; have HB := Aside0.mk (Below.refl w.heap.size w)
 have H : ((laws_big.f l0).bind fun t101 => (if t101 = true then (some true) else ((spec_DrawCase.f k l0).bind fun bt102 => ((spec_Decide.f k bt102.1 bt102.2.1 bt102.2.2).bind fun bt108 => ((some (([0, 1, 5, 40] : List Int) : List Int)).bind fun y110 => (laws_FnMachine.l0 k bt102.1 bt108.1 y110 (y110.length : Int) 0 bt102.2.1 bt102.2.2)))))) = some r := h
 clear h
 replace H := Option.bind_eq_some_iff.mp H
 obtain ⟨t101, A20, H⟩ := H
 replace H : (if t101 = true then (some true) else ((spec_DrawCase.f k l0).bind fun bt102 => ((spec_Decide.f k bt102.1 bt102.2.1 bt102.2.2).bind fun bt108 => ((some (([0, 1, 5, 40] : List Int) : List Int)).bind fun y110 => (laws_FnMachine.l0 k bt102.1 bt108.1 y110 (y110.length : Int) 0 bt102.2.1 bt102.2.2))))) = some r := H
 have A2 := Aside0.mk A20; clear A20
 by_cases c3 : t101 = true
 ·subst c3
  have H1 : (some true) = some r := by rw [if_pos rfl] at H; exact H
  clear H; have H := H1; clear H1
  obtain rfl := Option.some.inj H
  go_enter Try.func11, Try.ntmps11
  go_wp2_with (first | ((with_reducible refine gate_callee (f := 42) rfl ?_); refine goesL_ (some 14) rfl rfl Try.func42 (by kernel_rfl) rfl #[.slice A0 l0.length c0] rfl (by (try simp only [List.map_toArray, List.map_cons, List.map_nil]); first | done | rfl | (simp only [List.length_drop, List.length_take]; rfl)) ?_; (with_reducible refine (laws_big.calls _ _ l0 true _ ?side1 ?side2 A2.out).mono ?_); (case side1 => repeat (first | exact HR0.out | (with_reducible refine Kd.C_alloc ?_ _) | (with_reducible refine Kd.C_drewN ?_ _) | (with_reducible refine Kd.C_drew ?_))); (case side2 => exact HC0.out); rintro e w' ⟨rfl, ⟨nd, rfl⟩⟩; refine ⟨_, rfl, ?_⟩))
  go_ret
  exact ⟨by first | rfl | (simp [errW_none, errW_some] <;> rfl) | (simp [*, errW_none, errW_some] <;> rfl), by repeat (first | (with_reducible first | exact HB.out | apply below_alloc | apply pw_below_drewN | apply below_drew1) | exact HB.out)⟩
 ·replace c3 := Bool.eq_false_iff.mpr c3
  subst c3
  have H1 : ((spec_DrawCase.f k l0).bind fun bt102 => ((spec_Decide.f k bt102.1 bt102.2.1 bt102.2.2).bind fun bt108 => ((some (([0, 1, 5, 40] : List Int) : List Int)).bind fun y110 => (laws_FnMachine.l0 k bt102.1 bt108.1 y110 (y110.length : Int) 0 bt102.2.1 bt102.2.2)))) = some r := by rw [if_neg (show ¬ (false = true) by decide)] at H; exact H
  clear H; have H := H1; clear H1
  replace H := Option.bind_eq_some_iff.mp H
  obtain ⟨⟨t102, t105, t106⟩, A40, H⟩ := H
  replace H : ((spec_Decide.f k t102 t105 t106).bind fun bt108 => ((some (([0, 1, 5, 40] : List Int) : List Int)).bind fun y110 => (laws_FnMachine.l0 k t102 bt108.1 y110 (y110.length : Int) 0 t105 t106))) = some r := H
  have A4 := Aside0.mk A40; clear A40
  replace H := Option.bind_eq_some_iff.mp H
  obtain ⟨⟨t108, t109⟩, A50, H⟩ := H
  replace H : ((some (([0, 1, 5, 40] : List Int) : List Int)).bind fun y110 => (laws_FnMachine.l0 k t102 t108 y110 (y110.length : Int) 0 t105 t106)) = some r := H
  have A5 := Aside0.mk A50; clear A50
  obtain ⟨y110, hy110⟩ : ∃ y_ : List Int, y_ = (([0, 1, 5, 40] : List Int)) := ⟨_, rfl⟩
  replace H : (laws_FnMachine.l0 k t102 t108 y110 (y110.length : Int) 0 t105 t106) = some r := by first | (rw [hy110]; with_reducible exact H) | (have H2_ := (Option.bind_some _ _).symm.trans H; rw [hy110]; with_reducible exact H2_) | (have H2_ := (Option.bind_some _ _).symm.trans H; with_reducible exact H2_) | with_reducible exact H | (rw [hy110]; exact H) | exact H
  have Ny110 := Aside0.mk hy110; clear hy110
  have H' := Aside0.mk H
  clear H
  go_enter Try.func11, Try.ntmps11
  go_wp2_with (first | ((with_reducible refine gate_callee (f := 42) rfl ?_); refine goesL_ (some 14) rfl rfl Try.func42 (by kernel_rfl) rfl #[.slice A0 l0.length c0] rfl (by (try simp only [List.map_toArray, List.map_cons, List.map_nil]); first | done | rfl | (simp only [List.length_drop, List.length_take]; rfl)) ?_; (with_reducible refine (laws_big.calls _ _ l0 false _ ?side1 ?side2 A2.out).mono ?_); (case side1 => repeat (first | exact HR0.out | (with_reducible refine Kd.C_alloc ?_ _) | (with_reducible refine Kd.C_drewN ?_ _) | (with_reducible refine Kd.C_drew ?_))); (case side2 => exact HC0.out); rintro e w' ⟨rfl, ⟨nd, rfl⟩⟩; refine ⟨_, rfl, ?_⟩) | ((with_reducible refine gate_callee (f := 43) rfl ?_); refine goesL_ (some 17) rfl rfl Try.func43 (by kernel_rfl) rfl #[.slice A0 l0.length c0] rfl (by (try simp only [List.map_toArray, List.map_cons, List.map_nil]); first | done | rfl | (simp only [List.length_drop, List.length_take]; rfl)) ?_; (with_reducible refine (spec_DrawCase.calls k _ _ l0 t102 t105 t106 _ ?side1 ?side2 A4.out).mono ?_); (case side1 => repeat (first | exact HR0.out | (with_reducible refine Kd.C_alloc ?_ _) | (with_reducible refine Kd.C_drewN ?_ _) | (with_reducible refine Kd.C_drew ?_))); (case side2 => exact HC0.out); rintro e w6 ⟨v103, rfl, ho0, hb⟩; refine ⟨_, rfl, ?_⟩; have n0_ := Aside0.mk (Kd.R_lower ho0 (below_size (by repeat (first | (with_reducible first | exact HB.out | apply below_alloc | apply pw_below_drewN | apply below_drew1) | exact HB.out)))); have n1_ := bs0 HB hb; clear HB; have HO104 := n0_; have HB := n1_; clear n0_ n1_; (try clear hb); (try clear hb2); (try clear hk); (try clear hi); (try clear ho0)) | ((with_reducible refine gate_dst (N := 4) rfl ?_); (try (refine gate_guard (by rfl) ?_; dsimp only)); refine box_event ?hg (N := 4) ?hd (cs := #[.int .i64 0, .string (⟨#[]⟩ : ByteArray)]) (t := 29) ?hr ?_; (case hd => rfl); (case hg => rfl); (case hr => first | (go_simp; done) | (go_simp; rfl)); intro gb107 hg w7 hbox hb; have n0_ := rb HO104 hb; have n1_ := bs0 HB hb; have n2_ := Aside0.mk (hbox); have n3_ := bz0 hg HB; have n4_ := bz0 hg HB; clear HO104; clear HB; have HO104 := n0_; have HB := n1_; have BK107 := n2_; have GW107 := n3_; have GE107 := n4_; clear n0_ n1_ n2_ n3_ n4_; clear hb hbox hg; have hcz8_0 : w7.cell? ⟨gb107, 0, none⟩ = some (.int .i64 0) := (blk_cell BK107.out 0).trans rfl; have hcz8_1 : w7.cell? ⟨gb107, 1, none⟩ = some (.string (⟨#[]⟩ : ByteArray)) := (blk_cell BK107.out 1).trans rfl; have hfz8_0 := blk_frozen BK107.out 0; have hfz8_1 := blk_frozen BK107.out 1; obtain ⟨Ao9, co9, eo9⟩ := Kd.R_slice HO104.out; subst eo9) | ((with_reducible refine gate_callee (f := 16) rfl ?_); refine goesL_ (some 23) rfl rfl Try.func16 (by kernel_rfl) rfl #[.slice Ao9 t102.length co9, .agg #[.int .i64 t105, .string t106]] rfl (by (try simp only [List.map_toArray, List.map_cons, List.map_nil]); first | done | rfl | (simp only [List.length_drop, List.length_take]; rfl)) ?_; (with_reducible refine (spec_Decide.calls k _ _ t102 t105 t106 t108 t109 _ ?side1 ?side2 A5.out).mono ?_); (case side1 => refine (Kd.R_reads' (e := 4) (base := w.heap.size) (ok := fun k_ => True) (n := t102.length) (c := co9) ?_).2.2; exact (by (with_reducible repeat (first | apply Kd.R_alloc | apply Kd.R_drewN | apply Kd.R_drew)); exact (rf HO104 BK107))); (case side2 => exact (Kd.R_reads' HO104.out).2.1); rintro e w10 ⟨rfl, hb⟩; refine ⟨_, rfl, ?_⟩; have n0_ := rbf HO104 BK107 hb; have n1_ := Aside0.mk (blk_below (g := gb107) (o := .cells #[.int .i64 t105, .string t106] 29 (0, 0)) (by (with_reducible repeat (first | refine blk_drewN ?_ _ | refine blk_drew ?_ | refine blk_alloc ?_ _)); exact bp2 BK107.out) hb); have n2_ := bs1 HB hb GE107; clear HO104; clear BK107; clear HB; have HO104 := n0_; have BK107 := n1_; have HB := n2_; clear n0_ n1_ n2_; (try clear hb); (try clear hb2); (try clear hk); (try clear hi)) | ((with_reducible refine gate_dst (N := 26) rfl ?_); (try (refine gate_guard (by rfl) ?_; dsimp only)); refine Kd.R_lit (Kd.int .i64) _ 3 ?hg (N := 26) ?hd (xs := ([0, 1, 5, 40] : List Int)) (inner := [.int .i64 0, .int .i64 1, .int .i64 5, .int .i64 40]) (ok := fun _ => True) (okp := fun _ => True) ?hr ?hp (fun _ hk => hk) trivial (Below.refl _ _) (Nat.le_refl _) (by simp) ?_; (case hd => rfl); (case hg => rfl); (case hr => first | (go_simp; done) | (go_simp; rfl)); (case hp => exact (Reps.one (show Kd.M (Kd.int .i64) _ _ _ 0 [.int .i64 0] from rfl) (Reps.one (show Kd.M (Kd.int .i64) _ _ _ 1 [.int .i64 1] from rfl) (Reps.one (show Kd.M (Kd.int .i64) _ _ _ 5 [.int .i64 5] from rfl) (Reps.one (show Kd.M (Kd.int .i64) _ _ _ 40 [.int .i64 40] from rfl) (Reps.none _ _)))))); intro v111 w11 ho12 hb hg_ hnew_; clear hg_ hnew_; (first | rw [← Ny110.out] at ho12 | (simp only [Int.reduceToNat] at ho12; rw [← Ny110.out] at ho12)); have n0_ := rb HO104 hb; have n1_ := Aside0.mk (Kd.R_lower ho12 (below_size (by repeat (first | (with_reducible first | exact HB.out | apply below_alloc | apply pw_below_drewN | apply below_drew1 | refine below_set ?_ GE107.out) | exact HB.out)))); have n2_ := bb BK107 hb; have n3_ := bs1 HB hb GE107; clear HO104; clear BK107; clear HB; have HO104 := n0_; have HO112 := n1_; have BK107 := n2_; have HB := n3_; clear n0_ n1_ n2_ n3_; clear hb ho12; obtain ⟨Ao13, co13, eo13⟩ := Kd.R_slice HO112.out; subst eo13))
  go_loopg [28] k (fun kq v28 w' => ∃ (x28_1 : Int), v28 = .int .i64 x28_1 ∧ Aside0 (laws_FnMachine.l0 kq t102 t108 y110 (y110.length : Int) x28_1 t105 t106 = some r) ∧ Aside0 (kq ≤ k) ∧ Aside0 (Kd.R Kd.bool 4 w' w.heap.size (fun _ => True) (.slice Ao9 t102.length co9) t102) ∧ Aside0 (Kd.R (Kd.int .i64) 3 w' w.heap.size (fun _ => True) (.slice Ao13 y110.length co13) y110) ∧ Aside0 (w'.heap[gb107]? = some (.cells #[.int .i64 t105, .string t106] 29 (0, 0))) ∧ Aside0 (Below w.heap.size w w'))
  case atStart => exact ⟨(0), (by first | rfl | (simp; done) | (simp [*]; done)), H', ⟨Nat.le_refl _⟩, ⟨by (with_reducible repeat (first | apply Kd.R_alloc | apply Kd.R_drewN | apply Kd.R_drew)); exact HO104.out⟩, ⟨by (with_reducible repeat (first | apply Kd.R_alloc | apply Kd.R_drewN | apply Kd.R_drew)); exact HO112.out⟩, ⟨by (with_reducible repeat (first | refine blk_drewN ?_ _ | refine blk_drew ?_ | refine blk_alloc ?_ _)); exact BK107.out⟩, ⟨by repeat (first | (with_reducible first | exact HB.out | apply below_alloc | apply pw_below_drewN | apply below_drew1 | refine below_set ?_ GE107.out) | exact HB.out)⟩⟩
  case round =>
   clear H'
   (try clear c1); (try clear p2); (try clear c3); (try clear c4); (try clear c11); (try clear hcz8_0); (try clear hcz8_1); (try clear hfz8_0); (try clear hfz8_1)
   obtain ⟨x28_1, rfl, HA, HK1, HO_3, HO_26, BK107, HB⟩ := hrel
   cases gk with
      | zero => exact absurd HA.out (by simp [laws_FnMachine.l0])
      | succ k1 =>
    have H := HA.out; clear HA
    simp only [laws_FnMachine.l0] at H
    by_cases c14 : x28_1 < (y110.length : Int)
    ·rw [if_pos c14] at H
     have c14b0 : decide (x28_1 < (y110.length : Int)) = true := decide_eq_true c14; clear c14
     by_cases c15 : 0 ≤ x28_1
     ·rw [if_pos c15] at H
      have c15b0 : decide (0 ≤ x28_1) = true := decide_eq_true c15; clear c15
      by_cases c16 : x28_1 < (y110.length : Int)
      ·rw [if_pos c16] at H
       have c16b0 : decide (x28_1 < (y110.length : Int)) = true := decide_eq_true c16; clear c16
       replace H := Option.bind_eq_some_iff.mp H
       obtain ⟨⟨t114, t117, t118, t119, t120, t123, t124, t125, t126, t127, t128, t131⟩, A170, H⟩ := H
       replace H : (if t131 = true then ((impl_MachineOk.f k1 t114 t117 t118 t119 t120 t123 t124 t125 t126 t127 t128).bind fun t133 => (laws_FnMachine.j1 k1 t102 t108 (rd y110 x28_1) y110 (y110.length : Int) x28_1 (!t133) t105 t106 t114 t117 t118 t119 t120 t123 t124 t125 t126 t127 t128)) else (laws_FnMachine.j1 k1 t102 t108 (rd y110 x28_1) y110 (y110.length : Int) x28_1 true t105 t106 t114 t117 t118 t119 t120 t123 t124 t125 t126 t127 t128)) = some r := H
       have A17 := Aside0.mk A170; clear A170; have HC18 := Aside0.mk H; clear H
       have p113 : 0 ≤ (x28_1 : Int) := of_decide_eq_true (by first | (with_reducible assumption) | assumption)
       have q113 : x28_1 < (y110.length : Int) := of_decide_eq_true (by first | (with_reducible assumption) | assumption)
       obtain ⟨ad113, e113, hx113_0⟩ := Kd.at_int (Kd.R_reads' HO_26.out).2.2 x28_1 p113 q113
       cases e113
       replace p113 := eq_true p113
       replace q113 := eq_true q113
       have hcz19_0 : wr.cell? ⟨gb107, 0, none⟩ = some (.int .i64 t105) := (blk_cell BK107.out 0).trans rfl; have hcz19_1 : wr.cell? ⟨gb107, 1, none⟩ = some (.string t106) := (blk_cell BK107.out 1).trans rfl; have hfz19_0 := blk_frozen BK107.out 0; have hfz19_1 := blk_frozen BK107.out 1
       go_upto_region 9 with (first | ((with_reducible refine gate_callee (f := 24) rfl ?_); refine goesL_ (some 36) rfl rfl Try.func24 (by kernel_rfl) rfl #[.slice Ao9 t102.length co9, .agg #[.int .i64 t105, .string t106], .int .i64 (rd y110 x28_1)] rfl (by (try simp only [List.map_toArray, List.map_cons, List.map_nil]); first | done | rfl | (simp only [List.length_drop, List.length_take]; rfl)) ?_; (with_reducible refine (impl_MachineStart.calls k1 _ _ t102 t105 t106 (rd y110 x28_1) t114 t117 t118 t119 t120 t123 t124 t125 t126 t127 t128 t131 _ ?side1 ?side2 A17.out).mono ?_); (case side1 => repeat (first | exact (Kd.R_reads' HO_3.out).2.2 | (with_reducible refine Kd.C_alloc ?_ _) | (with_reducible refine Kd.C_drewN ?_ _) | (with_reducible refine Kd.C_drew ?_))); (case side2 => exact (Kd.R_reads' HO_3.out).2.1); rintro e w20 ⟨v115, v121, v129, rfl, ho0, ho1, ho2, hb⟩; refine ⟨_, rfl, ?_⟩; have n0_ := re HO_3 (Kd.R_base ho0) hb; have n1_ := re HO_26 (Kd.R_base ho1) hb; have n2_ := Aside0.mk (Kd.R_lower (Kd.R_new' ho0 (Kd.R_lt (by (with_reducible repeat (first | apply Kd.R_alloc | apply Kd.R_drewN | apply Kd.R_drew)); exact HO_3.out))) (below_size (by repeat (first | (with_reducible first | exact HB.out | apply below_alloc | apply pw_below_drewN | apply below_drew1 | refine below_set ?_ GE107.out) | exact HB.out)))); have n3_ := Aside0.mk (Kd.R_lower (Kd.R_new' ho1 (Kd.R_lt (by (with_reducible repeat (first | apply Kd.R_alloc | apply Kd.R_drewN | apply Kd.R_drew)); exact HO_26.out))) (below_size (by repeat (first | (with_reducible first | exact HB.out | apply below_alloc | apply pw_below_drewN | apply below_drew1 | refine below_set ?_ GE107.out) | exact HB.out)))); have n4_ := Aside0.mk (Kd.R_lower ho2 (below_size (by repeat (first | (with_reducible first | exact HB.out | apply below_alloc | apply pw_below_drewN | apply below_drew1 | refine below_set ?_ GE107.out) | exact HB.out)))); have n5_ := bb BK107 hb; have n6_ := bs1 HB hb GE107; clear HO_3; clear HO_26; clear BK107; clear HB; have HO_3 := n0_; have HO_26 := n1_; have HO116 := n2_; have HO122 := n3_; have HO130 := n4_; have BK107 := n5_; have HB := n6_; clear n0_ n1_ n2_ n3_ n4_ n5_ n6_; (try clear hb); (try clear hb2); (try clear hk); (try clear hi); (try clear ho0); (try clear ho1); (try clear ho2)) | ((with_reducible refine gate_dst (N := 9) rfl ?_); (try (refine gate_guard (by rfl) ?_; dsimp only)); refine box_event ?hg (N := 9) ?hd (cs := #[.slice none 0 0, .int .i64 0, .string (⟨#[]⟩ : ByteArray), .int .i64 0, .slice none 0 0, .int .i64 0, .bool false, .int .i64 0, .int .i64 0, .int .i64 0, .slice none 0 0]) (t := 36) ?hr ?_; (case hd => rfl); (case hg => rfl); (case hr => first | (go_simp; done) | (go_simp; rfl)); intro gb132 hg w21 hbox hb; have n0_ := rb HO_3 hb; have n1_ := rb HO_26 hb; have n2_ := rb HO116 hb; have n3_ := rb HO122 hb; have n4_ := rb HO130 hb; have n5_ := bb BK107 hb; have n6_ := bs1 HB hb GE107; have n7_ := Aside0.mk (hbox); have n8_ := bz1 hg HB GE107; have n9_ := bz1 hg HB GE107; have n10_ := nl hg BK107; have n11_ := ng hg BK107; clear HO_3; clear HO_26; clear HO116; clear HO122; clear HO130; clear BK107; clear HB; have HO_3 := n0_; have HO_26 := n1_; have HO116 := n2_; have HO122 := n3_; have HO130 := n4_; have BK107 := n5_; have HB := n6_; have BK132 := n7_; have GW132 := n8_; have GE132 := n9_; have NB107_132 := n10_; have NB132_107 := n11_; clear n0_ n1_ n2_ n3_ n4_ n5_ n6_ n7_ n8_ n9_ n10_ n11_; clear hb hbox hg; obtain ⟨Ao22, co22, eo22⟩ := Kd.R_slice HO116.out; subst eo22; have hnb23 := NB132_107.out; have hnc23 := NB107_132.out; have hcz24_0 : w21.cell? ⟨gb132, 0, none⟩ = some (.slice none 0 0) := (blk_cell BK132.out 0).trans rfl; have hcz24_1 : w21.cell? ⟨gb132, 1, none⟩ = some (.int .i64 0) := (blk_cell BK132.out 1).trans rfl; have hcz24_2 : w21.cell? ⟨gb132, 2, none⟩ = some (.string (⟨#[]⟩ : ByteArray)) := (blk_cell BK132.out 2).trans rfl; have hcz24_3 : w21.cell? ⟨gb132, 3, none⟩ = some (.int .i64 0) := (blk_cell BK132.out 3).trans rfl; have hcz24_4 : w21.cell? ⟨gb132, 4, none⟩ = some (.slice none 0 0) := (blk_cell BK132.out 4).trans rfl; have hcz24_5 : w21.cell? ⟨gb132, 5, none⟩ = some (.int .i64 0) := (blk_cell BK132.out 5).trans rfl; have hcz24_6 : w21.cell? ⟨gb132, 6, none⟩ = some (.bool false) := (blk_cell BK132.out 6).trans rfl; have hcz24_7 : w21.cell? ⟨gb132, 7, none⟩ = some (.int .i64 0) := (blk_cell BK132.out 7).trans rfl; have hcz24_8 : w21.cell? ⟨gb132, 8, none⟩ = some (.int .i64 0) := (blk_cell BK132.out 8).trans rfl; have hcz24_9 : w21.cell? ⟨gb132, 9, none⟩ = some (.int .i64 0) := (blk_cell BK132.out 9).trans rfl; have hcz24_10 : w21.cell? ⟨gb132, 10, none⟩ = some (.slice none 0 0) := (blk_cell BK132.out 10).trans rfl; have hfz24_0 := blk_frozen BK132.out 0; have hfz24_1 := blk_frozen BK132.out 1; have hfz24_2 := blk_frozen BK132.out 2; have hfz24_3 := blk_frozen BK132.out 3; have hfz24_4 := blk_frozen BK132.out 4; have hfz24_5 := blk_frozen BK132.out 5; have hfz24_6 := blk_frozen BK132.out 6; have hfz24_7 := blk_frozen BK132.out 7; have hfz24_8 := blk_frozen BK132.out 8; have hfz24_9 := blk_frozen BK132.out 9; have hfz24_10 := blk_frozen BK132.out 10; obtain ⟨Ao25, co25, eo25⟩ := Kd.R_slice HO122.out; subst eo25; obtain ⟨Ao26, co26, eo26⟩ := Kd.R_slice HO130.out; subst eo26))
       (try simp only [Act.put, List.setIfInBounds_toArray, List.set_cons_zero, List.set_cons_succ])
       go_cut [45] (fun v45 wc => ∃ (kq : Nat) (x45_17 : Bool), v45 = .bool x45_17 ∧ Aside0 (laws_FnMachine.j1 kq t102 t108 (rd y110 x28_1) y110 (y110.length : Int) x28_1 x45_17 t105 t106 t114 t117 t118 t119 t120 t123 t124 t125 t126 t127 t128 = some r) ∧ Aside0 (kq ≤ k1) ∧ Aside0 (Kd.R Kd.bool 4 wc w.heap.size (fun k_ => some k_ ≠ ((.slice Ao22 t114.length co22) : Value).ownBlock) (.slice Ao9 t102.length co9) t102) ∧ Aside0 (Kd.R (Kd.int .i64) 3 wc w.heap.size (fun k_ => some k_ ≠ ((.slice Ao25 t120.length co25) : Value).ownBlock) (.slice (some ad113) y110.length co13) y110) ∧ Aside0 (Kd.R Kd.bool 4 wc w.heap.size (fun k_ => some k_ ≠ ((.slice Ao9 t102.length co9) : Value).ownBlock) (.slice Ao22 t114.length co22) t114) ∧ Aside0 (Kd.R (Kd.int .i64) 3 wc w.heap.size (fun k_ => some k_ ≠ ((.slice (some ad113) y110.length co13) : Value).ownBlock) (.slice Ao25 t120.length co25) t120) ∧ Aside0 (Kd.R k86 86 wc w.heap.size (fun _ => True) (.slice Ao26 t128.length co26) t128) ∧ Aside0 (wc.heap[gb107]? = some (.cells #[.int .i64 t105, .string t106] 29 (0, 0))) ∧ Aside0 (wc.heap[gb132]? = some (.cells #[(.slice Ao22 t114.length co22), .int .i64 t117, .string t118, .int .i64 t119, (.slice Ao25 t120.length co25), .int .i64 t123, .bool t124, .int .i64 t125, .int .i64 t126, .int .i64 t127, (.slice Ao26 t128.length co26)] 36 (0, 0))) ∧ Aside0 (Below w.heap.size w wc))
       case first =>
        have H := HC18.out; clear HC18
        by_cases c27 : t131 = true
        ·subst c27
         have H1 : ((impl_MachineOk.f k1 t114 t117 t118 t119 t120 t123 t124 t125 t126 t127 t128).bind fun t133 => (laws_FnMachine.j1 k1 t102 t108 (rd y110 x28_1) y110 (y110.length : Int) x28_1 (!t133) t105 t106 t114 t117 t118 t119 t120 t123 t124 t125 t126 t127 t128)) = some r := by rw [if_pos rfl] at H; exact H
         clear H; have H := H1; clear H1
         replace H := Option.bind_eq_some_iff.mp H
         obtain ⟨t133, A280, H⟩ := H
         replace H : (laws_FnMachine.j1 k1 t102 t108 (rd y110 x28_1) y110 (y110.length : Int) x28_1 (!t133) t105 t106 t114 t117 t118 t119 t120 t123 t124 t125 t126 t127 t128) = some r := H
         have A28 := Aside0.mk A280; clear A280
         have H' := Aside0.mk H
         clear H; have hnb29 := NB132_107.out; have hnc29 := NB107_132.out; have hcz30_0 : w21.cell? ⟨gb132, 0, none⟩ = some (.slice none 0 0) := (blk_cell BK132.out 0).trans rfl; have hcz30_1 : w21.cell? ⟨gb132, 1, none⟩ = some (.int .i64 0) := (blk_cell BK132.out 1).trans rfl; have hcz30_2 : w21.cell? ⟨gb132, 2, none⟩ = some (.string (⟨#[]⟩ : ByteArray)) := (blk_cell BK132.out 2).trans rfl; have hcz30_3 : w21.cell? ⟨gb132, 3, none⟩ = some (.int .i64 0) := (blk_cell BK132.out 3).trans rfl; have hcz30_4 : w21.cell? ⟨gb132, 4, none⟩ = some (.slice none 0 0) := (blk_cell BK132.out 4).trans rfl; have hcz30_5 : w21.cell? ⟨gb132, 5, none⟩ = some (.int .i64 0) := (blk_cell BK132.out 5).trans rfl; have hcz30_6 : w21.cell? ⟨gb132, 6, none⟩ = some (.bool false) := (blk_cell BK132.out 6).trans rfl; have hcz30_7 : w21.cell? ⟨gb132, 7, none⟩ = some (.int .i64 0) := (blk_cell BK132.out 7).trans rfl; have hcz30_8 : w21.cell? ⟨gb132, 8, none⟩ = some (.int .i64 0) := (blk_cell BK132.out 8).trans rfl; have hcz30_9 : w21.cell? ⟨gb132, 9, none⟩ = some (.int .i64 0) := (blk_cell BK132.out 9).trans rfl; have hcz30_10 : w21.cell? ⟨gb132, 10, none⟩ = some (.slice none 0 0) := (blk_cell BK132.out 10).trans rfl; have hfz30_0 := blk_frozen BK132.out 0; have hfz30_1 := blk_frozen BK132.out 1; have hfz30_2 := blk_frozen BK132.out 2; have hfz30_3 := blk_frozen BK132.out 3; have hfz30_4 := blk_frozen BK132.out 4; have hfz30_5 := blk_frozen BK132.out 5; have hfz30_6 := blk_frozen BK132.out 6; have hfz30_7 := blk_frozen BK132.out 7; have hfz30_8 := blk_frozen BK132.out 8; have hfz30_9 := blk_frozen BK132.out 9; have hfz30_10 := blk_frozen BK132.out 10
         go_wp2_with (first | (go_at_call 32; (try simp only [i64_w, i32_w]); (with_reducible refine (impl_MachineOk.calls k1 _ _ t114 t117 t118 t119 _ _ t120 t123 t124 t125 t126 t127 _ _ t128 t133 _ ?side1 ?side2 ?side3 ?side4 ?side5 ?side6 A28.out).mono ?_); (case side1 => refine (Kd.R_reads' (e := 4) (base := w.heap.size) (ok := fun k_ => (True ∧ some k_ ≠ (.slice Ao9 t102.length co9 : Value).ownBlock)) (n := t114.length) (c := co22) ?_).2.2; exact (by (with_reducible repeat (first | apply Kd.R_alloc | apply Kd.R_drewN | apply Kd.R_drew)); exact (rf HO116 BK132))); (case side2 => exact (Kd.R_reads' HO116.out).2.1); (case side3 => refine (Kd.R_reads' (e := 3) (base := w.heap.size) (ok := fun k_ => (True ∧ some k_ ≠ (.slice (some ad113) y110.length co13 : Value).ownBlock)) (n := t120.length) (c := co25) ?_).2.2; exact (by (with_reducible repeat (first | apply Kd.R_alloc | apply Kd.R_drewN | apply Kd.R_drew)); exact (rf HO122 BK132))); (case side4 => exact (Kd.R_reads' HO122.out).2.1); (case side5 => refine (Kd.R_reads' (e := 86) (base := w.heap.size) (ok := fun k_ => True) (n := t128.length) (c := co26) ?_).2.2; exact (by (with_reducible repeat (first | apply Kd.R_alloc | apply Kd.R_drewN | apply Kd.R_drew)); exact (rf HO130 BK132))); (case side6 => exact (Kd.R_reads' HO130.out).2.1); rintro e w31 ⟨rfl, hb⟩; have n0_ := rbf HO_3 BK132 hb; have n1_ := rbf HO_26 BK132 hb; have n2_ := rbf HO116 BK132 hb; have n3_ := rbf HO122 BK132 hb; have n4_ := rbf HO130 BK132 hb; have n5_ := Aside0.mk (blk_below (dq BK107 NB107_132) hb); have n6_ := Aside0.mk (blk_below (g := gb132) (o := .cells #[.slice Ao22 t114.length co22, .int .i64 t117, .string t118, .int .i64 t119, .slice Ao25 t120.length co25, .int .i64 t123, .bool t124, .int .i64 t125, .int .i64 t126, .int .i64 t127, .slice Ao26 t128.length co26] 36 (0, 0)) (by (with_reducible repeat (first | refine blk_drewN ?_ _ | refine blk_drew ?_ | refine blk_alloc ?_ _)); exact bp11 BK132.out) hb); have n7_ := bs2 HB hb GE107 GE132; clear HO_3; clear HO_26; clear HO116; clear HO122; clear HO130; clear BK107; clear BK132; clear HB; have HO_3 := n0_; have HO_26 := n1_; have HO116 := n2_; have HO122 := n3_; have HO130 := n4_; have BK107 := n5_; have BK132 := n6_; have HB := n7_; clear n0_ n1_ n2_ n3_ n4_ n5_ n6_ n7_; (try clear hb); (try clear hb2); (try clear hk); (try clear hi)))
         go_meet
         case rel => exact ⟨_, (!t133), (by first | rfl | (simp; done) | (simp [*]; done)), H', ⟨by have := HK1.out; first | omega | exact Nat.le_refl _⟩, ⟨by (with_reducible repeat (first | apply Kd.R_alloc | apply Kd.R_drewN | apply Kd.R_drew)); exact Kd.R_mono HO_3.out (fun _ hk => hk.2)⟩, ⟨by (with_reducible repeat (first | apply Kd.R_alloc | apply Kd.R_drewN | apply Kd.R_drew)); exact Kd.R_mono HO_26.out (fun _ hk => hk.2)⟩, ⟨by (with_reducible repeat (first | apply Kd.R_alloc | apply Kd.R_drewN | apply Kd.R_drew)); exact Kd.R_mono HO116.out (fun _ hk => hk.2)⟩, ⟨by (with_reducible repeat (first | apply Kd.R_alloc | apply Kd.R_drewN | apply Kd.R_drew)); exact Kd.R_mono HO122.out (fun _ hk => hk.2)⟩, ⟨by (with_reducible repeat (first | apply Kd.R_alloc | apply Kd.R_drewN | apply Kd.R_drew)); exact HO130.out⟩, ⟨by (with_reducible repeat (first | refine blk_drewN ?_ _ | refine blk_drew ?_ | refine blk_alloc ?_ _)); exact BK107.out⟩, ⟨by (with_reducible repeat (first | refine blk_drewN ?_ _ | refine blk_drew ?_ | refine blk_alloc ?_ _)); exact BK132.out⟩, ⟨by repeat (first | (with_reducible first | exact HB.out | apply below_alloc | apply pw_below_drewN | apply below_drew1 | refine below_set ?_ GE107.out | refine below_set ?_ GE132.out) | exact HB.out)⟩⟩
        ·replace c27 := Bool.eq_false_iff.mpr c27
         subst c27
         have H1 : (laws_FnMachine.j1 k1 t102 t108 (rd y110 x28_1) y110 (y110.length : Int) x28_1 true t105 t106 t114 t117 t118 t119 t120 t123 t124 t125 t126 t127 t128) = some r := by rw [if_neg (show ¬ (false = true) by decide)] at H; exact H
         clear H; have H := H1; clear H1
         have H' := Aside0.mk H
         clear H
         go_wp2
         go_meet
         case rel => exact ⟨_, (true), (by first | rfl | (simp; done) | (simp [*]; done)), H', ⟨by have := HK1.out; first | omega | exact Nat.le_refl _⟩, ⟨by (with_reducible repeat (first | apply Kd.R_alloc | apply Kd.R_drewN | apply Kd.R_drew)); exact Kd.R_mono (Kd.R_far (p := ⟨gb132, 10, none⟩) (Kd.R_far (p := ⟨gb132, 9, none⟩) (Kd.R_far (p := ⟨gb132, 8, none⟩) (Kd.R_far (p := ⟨gb132, 7, none⟩) (Kd.R_far (p := ⟨gb132, 6, none⟩) (Kd.R_far (p := ⟨gb132, 5, none⟩) (Kd.R_far (p := ⟨gb132, 4, none⟩) (Kd.R_far (p := ⟨gb132, 3, none⟩) (Kd.R_far (p := ⟨gb132, 2, none⟩) (Kd.R_far (p := ⟨gb132, 1, none⟩) (Kd.R_far (p := ⟨gb132, 0, none⟩) (Kd.R_types HO_3.out BK132.out (by decide)) (fun _ hk => hk.2) (.slice Ao22 t114.length co22)) (fun _ hk => hk.2) (.int .i64 t117)) (fun _ hk => hk.2) (.string t118)) (fun _ hk => hk.2) (.int .i64 t119)) (fun _ hk => hk.2) (.slice Ao25 t120.length co25)) (fun _ hk => hk.2) (.int .i64 t123)) (fun _ hk => hk.2) (.bool t124)) (fun _ hk => hk.2) (.int .i64 t125)) (fun _ hk => hk.2) (.int .i64 t126)) (fun _ hk => hk.2) (.int .i64 t127)) (fun _ hk => hk.2) (.slice Ao26 t128.length co26)) (fun _ hk => hk.1.2)⟩, ⟨by (with_reducible repeat (first | apply Kd.R_alloc | apply Kd.R_drewN | apply Kd.R_drew)); exact Kd.R_mono (Kd.R_far (p := ⟨gb132, 10, none⟩) (Kd.R_far (p := ⟨gb132, 9, none⟩) (Kd.R_far (p := ⟨gb132, 8, none⟩) (Kd.R_far (p := ⟨gb132, 7, none⟩) (Kd.R_far (p := ⟨gb132, 6, none⟩) (Kd.R_far (p := ⟨gb132, 5, none⟩) (Kd.R_far (p := ⟨gb132, 4, none⟩) (Kd.R_far (p := ⟨gb132, 3, none⟩) (Kd.R_far (p := ⟨gb132, 2, none⟩) (Kd.R_far (p := ⟨gb132, 1, none⟩) (Kd.R_far (p := ⟨gb132, 0, none⟩) (Kd.R_types HO_26.out BK132.out (by decide)) (fun _ hk => hk.2) (.slice Ao22 t114.length co22)) (fun _ hk => hk.2) (.int .i64 t117)) (fun _ hk => hk.2) (.string t118)) (fun _ hk => hk.2) (.int .i64 t119)) (fun _ hk => hk.2) (.slice Ao25 t120.length co25)) (fun _ hk => hk.2) (.int .i64 t123)) (fun _ hk => hk.2) (.bool t124)) (fun _ hk => hk.2) (.int .i64 t125)) (fun _ hk => hk.2) (.int .i64 t126)) (fun _ hk => hk.2) (.int .i64 t127)) (fun _ hk => hk.2) (.slice Ao26 t128.length co26)) (fun _ hk => hk.1.2)⟩, ⟨by (with_reducible repeat (first | apply Kd.R_alloc | apply Kd.R_drewN | apply Kd.R_drew)); exact Kd.R_mono (Kd.R_far (p := ⟨gb132, 10, none⟩) (Kd.R_far (p := ⟨gb132, 9, none⟩) (Kd.R_far (p := ⟨gb132, 8, none⟩) (Kd.R_far (p := ⟨gb132, 7, none⟩) (Kd.R_far (p := ⟨gb132, 6, none⟩) (Kd.R_far (p := ⟨gb132, 5, none⟩) (Kd.R_far (p := ⟨gb132, 4, none⟩) (Kd.R_far (p := ⟨gb132, 3, none⟩) (Kd.R_far (p := ⟨gb132, 2, none⟩) (Kd.R_far (p := ⟨gb132, 1, none⟩) (Kd.R_far (p := ⟨gb132, 0, none⟩) (Kd.R_types HO116.out BK132.out (by decide)) (fun _ hk => hk.2) (.slice Ao22 t114.length co22)) (fun _ hk => hk.2) (.int .i64 t117)) (fun _ hk => hk.2) (.string t118)) (fun _ hk => hk.2) (.int .i64 t119)) (fun _ hk => hk.2) (.slice Ao25 t120.length co25)) (fun _ hk => hk.2) (.int .i64 t123)) (fun _ hk => hk.2) (.bool t124)) (fun _ hk => hk.2) (.int .i64 t125)) (fun _ hk => hk.2) (.int .i64 t126)) (fun _ hk => hk.2) (.int .i64 t127)) (fun _ hk => hk.2) (.slice Ao26 t128.length co26)) (fun _ hk => hk.1.2)⟩, ⟨by (with_reducible repeat (first | apply Kd.R_alloc | apply Kd.R_drewN | apply Kd.R_drew)); exact Kd.R_mono (Kd.R_far (p := ⟨gb132, 10, none⟩) (Kd.R_far (p := ⟨gb132, 9, none⟩) (Kd.R_far (p := ⟨gb132, 8, none⟩) (Kd.R_far (p := ⟨gb132, 7, none⟩) (Kd.R_far (p := ⟨gb132, 6, none⟩) (Kd.R_far (p := ⟨gb132, 5, none⟩) (Kd.R_far (p := ⟨gb132, 4, none⟩) (Kd.R_far (p := ⟨gb132, 3, none⟩) (Kd.R_far (p := ⟨gb132, 2, none⟩) (Kd.R_far (p := ⟨gb132, 1, none⟩) (Kd.R_far (p := ⟨gb132, 0, none⟩) (Kd.R_types HO122.out BK132.out (by decide)) (fun _ hk => hk.2) (.slice Ao22 t114.length co22)) (fun _ hk => hk.2) (.int .i64 t117)) (fun _ hk => hk.2) (.string t118)) (fun _ hk => hk.2) (.int .i64 t119)) (fun _ hk => hk.2) (.slice Ao25 t120.length co25)) (fun _ hk => hk.2) (.int .i64 t123)) (fun _ hk => hk.2) (.bool t124)) (fun _ hk => hk.2) (.int .i64 t125)) (fun _ hk => hk.2) (.int .i64 t126)) (fun _ hk => hk.2) (.int .i64 t127)) (fun _ hk => hk.2) (.slice Ao26 t128.length co26)) (fun _ hk => hk.1.2)⟩, ⟨by (with_reducible repeat (first | apply Kd.R_alloc | apply Kd.R_drewN | apply Kd.R_drew)); exact Kd.R_mono (Kd.R_far (p := ⟨gb132, 10, none⟩) (Kd.R_far (p := ⟨gb132, 9, none⟩) (Kd.R_far (p := ⟨gb132, 8, none⟩) (Kd.R_far (p := ⟨gb132, 7, none⟩) (Kd.R_far (p := ⟨gb132, 6, none⟩) (Kd.R_far (p := ⟨gb132, 5, none⟩) (Kd.R_far (p := ⟨gb132, 4, none⟩) (Kd.R_far (p := ⟨gb132, 3, none⟩) (Kd.R_far (p := ⟨gb132, 2, none⟩) (Kd.R_far (p := ⟨gb132, 1, none⟩) (Kd.R_far (p := ⟨gb132, 0, none⟩) (Kd.R_types HO130.out BK132.out (by decide)) (fun _ hk => hk.2) (.slice Ao22 t114.length co22)) (fun _ hk => hk.2) (.int .i64 t117)) (fun _ hk => hk.2) (.string t118)) (fun _ hk => hk.2) (.int .i64 t119)) (fun _ hk => hk.2) (.slice Ao25 t120.length co25)) (fun _ hk => hk.2) (.int .i64 t123)) (fun _ hk => hk.2) (.bool t124)) (fun _ hk => hk.2) (.int .i64 t125)) (fun _ hk => hk.2) (.int .i64 t126)) (fun _ hk => hk.2) (.int .i64 t127)) (fun _ hk => hk.2) (.slice Ao26 t128.length co26)) (fun _ hk => trivial)⟩, ⟨by (with_reducible repeat (first | refine blk_drewN ?_ _ | refine blk_drew ?_ | refine blk_alloc ?_ _)); refine blk_far ?_ NB107_132.out _; (with_reducible repeat (first | refine blk_drewN ?_ _ | refine blk_drew ?_ | refine blk_alloc ?_ _)); refine blk_far ?_ NB107_132.out _; (with_reducible repeat (first | refine blk_drewN ?_ _ | refine blk_drew ?_ | refine blk_alloc ?_ _)); refine blk_far ?_ NB107_132.out _; (with_reducible repeat (first | refine blk_drewN ?_ _ | refine blk_drew ?_ | refine blk_alloc ?_ _)); refine blk_far ?_ NB107_132.out _; (with_reducible repeat (first | refine blk_drewN ?_ _ | refine blk_drew ?_ | refine blk_alloc ?_ _)); refine blk_far ?_ NB107_132.out _; (with_reducible repeat (first | refine blk_drewN ?_ _ | refine blk_drew ?_ | refine blk_alloc ?_ _)); refine blk_far ?_ NB107_132.out _; (with_reducible repeat (first | refine blk_drewN ?_ _ | refine blk_drew ?_ | refine blk_alloc ?_ _)); refine blk_far ?_ NB107_132.out _; (with_reducible repeat (first | refine blk_drewN ?_ _ | refine blk_drew ?_ | refine blk_alloc ?_ _)); refine blk_far ?_ NB107_132.out _; (with_reducible repeat (first | refine blk_drewN ?_ _ | refine blk_drew ?_ | refine blk_alloc ?_ _)); refine blk_far ?_ NB107_132.out _; (with_reducible repeat (first | refine blk_drewN ?_ _ | refine blk_drew ?_ | refine blk_alloc ?_ _)); refine blk_far ?_ NB107_132.out _; (with_reducible repeat (first | refine blk_drewN ?_ _ | refine blk_drew ?_ | refine blk_alloc ?_ _)); refine blk_far ?_ NB107_132.out _; (with_reducible repeat (first | refine blk_drewN ?_ _ | refine blk_drew ?_ | refine blk_alloc ?_ _)); exact BK107.out⟩, ⟨by (with_reducible repeat (first | refine blk_drewN ?_ _ | refine blk_drew ?_ | refine blk_alloc ?_ _)); refine blk_put (cs := #[.slice Ao22 t114.length co22, .int .i64 t117, .string t118, .int .i64 t119, .slice Ao25 t120.length co25, .int .i64 t123, .bool t124, .int .i64 t125, .int .i64 t126, .int .i64 t127, .slice none 0 0]) ?_ 10 _ rfl; (with_reducible repeat (first | refine blk_drewN ?_ _ | refine blk_drew ?_ | refine blk_alloc ?_ _)); refine blk_put (cs := #[.slice Ao22 t114.length co22, .int .i64 t117, .string t118, .int .i64 t119, .slice Ao25 t120.length co25, .int .i64 t123, .bool t124, .int .i64 t125, .int .i64 t126, .int .i64 0, .slice none 0 0]) ?_ 9 _ rfl; (with_reducible repeat (first | refine blk_drewN ?_ _ | refine blk_drew ?_ | refine blk_alloc ?_ _)); refine blk_put (cs := #[.slice Ao22 t114.length co22, .int .i64 t117, .string t118, .int .i64 t119, .slice Ao25 t120.length co25, .int .i64 t123, .bool t124, .int .i64 t125, .int .i64 0, .int .i64 0, .slice none 0 0]) ?_ 8 _ rfl; (with_reducible repeat (first | refine blk_drewN ?_ _ | refine blk_drew ?_ | refine blk_alloc ?_ _)); refine blk_put (cs := #[.slice Ao22 t114.length co22, .int .i64 t117, .string t118, .int .i64 t119, .slice Ao25 t120.length co25, .int .i64 t123, .bool t124, .int .i64 0, .int .i64 0, .int .i64 0, .slice none 0 0]) ?_ 7 _ rfl; (with_reducible repeat (first | refine blk_drewN ?_ _ | refine blk_drew ?_ | refine blk_alloc ?_ _)); refine blk_put (cs := #[.slice Ao22 t114.length co22, .int .i64 t117, .string t118, .int .i64 t119, .slice Ao25 t120.length co25, .int .i64 t123, .bool false, .int .i64 0, .int .i64 0, .int .i64 0, .slice none 0 0]) ?_ 6 _ rfl; (with_reducible repeat (first | refine blk_drewN ?_ _ | refine blk_drew ?_ | refine blk_alloc ?_ _)); refine blk_put (cs := #[.slice Ao22 t114.length co22, .int .i64 t117, .string t118, .int .i64 t119, .slice Ao25 t120.length co25, .int .i64 0, .bool false, .int .i64 0, .int .i64 0, .int .i64 0, .slice none 0 0]) ?_ 5 _ rfl; (with_reducible repeat (first | refine blk_drewN ?_ _ | refine blk_drew ?_ | refine blk_alloc ?_ _)); refine blk_put (cs := #[.slice Ao22 t114.length co22, .int .i64 t117, .string t118, .int .i64 t119, .slice none 0 0, .int .i64 0, .bool false, .int .i64 0, .int .i64 0, .int .i64 0, .slice none 0 0]) ?_ 4 _ rfl; (with_reducible repeat (first | refine blk_drewN ?_ _ | refine blk_drew ?_ | refine blk_alloc ?_ _)); refine blk_put (cs := #[.slice Ao22 t114.length co22, .int .i64 t117, .string t118, .int .i64 0, .slice none 0 0, .int .i64 0, .bool false, .int .i64 0, .int .i64 0, .int .i64 0, .slice none 0 0]) ?_ 3 _ rfl; (with_reducible repeat (first | refine blk_drewN ?_ _ | refine blk_drew ?_ | refine blk_alloc ?_ _)); refine blk_put (cs := #[.slice Ao22 t114.length co22, .int .i64 t117, .string (⟨#[]⟩ : ByteArray), .int .i64 0, .slice none 0 0, .int .i64 0, .bool false, .int .i64 0, .int .i64 0, .int .i64 0, .slice none 0 0]) ?_ 2 _ rfl; (with_reducible repeat (first | refine blk_drewN ?_ _ | refine blk_drew ?_ | refine blk_alloc ?_ _)); refine blk_put (cs := #[.slice Ao22 t114.length co22, .int .i64 0, .string (⟨#[]⟩ : ByteArray), .int .i64 0, .slice none 0 0, .int .i64 0, .bool false, .int .i64 0, .int .i64 0, .int .i64 0, .slice none 0 0]) ?_ 1 _ rfl; (with_reducible repeat (first | refine blk_drewN ?_ _ | refine blk_drew ?_ | refine blk_alloc ?_ _)); refine blk_put (cs := #[.slice none 0 0, .int .i64 0, .string (⟨#[]⟩ : ByteArray), .int .i64 0, .slice none 0 0, .int .i64 0, .bool false, .int .i64 0, .int .i64 0, .int .i64 0, .slice none 0 0]) ?_ 0 _ rfl; (with_reducible repeat (first | refine blk_drewN ?_ _ | refine blk_drew ?_ | refine blk_alloc ?_ _)); exact BK132.out⟩, ⟨by repeat (first | (with_reducible first | exact HB.out | apply below_alloc | apply pw_below_drewN | apply below_drew1 | refine below_set ?_ GE107.out | refine below_set ?_ GE132.out) | exact HB.out)⟩⟩
       case rest =>
        clear HC18
        (try clear c1); (try clear p1); (try clear q1); (try clear hx1); (try clear c2); (try clear p2); (try clear c3); (try clear c4); (try clear c11); (try clear p11); (try clear q11); (try clear hx11); (try clear c14); (try clear c14b0); (try clear c15); (try clear c15b0); (try clear c16); (try clear c16b0); (try clear c23); (try clear c24); (try clear c27); (try clear c29); (try clear hcz19_0); (try clear hcz19_1); (try clear hcz24_0); (try clear hcz24_1); (try clear hcz24_10); (try clear hcz24_2); (try clear hcz24_3); (try clear hcz24_4); (try clear hcz24_5); (try clear hcz24_6); (try clear hcz24_7); (try clear hcz24_8); (try clear hcz24_9); (try clear hcz30_0); (try clear hcz30_1); (try clear hcz30_10); (try clear hcz30_2); (try clear hcz30_3); (try clear hcz30_4); (try clear hcz30_5); (try clear hcz30_6); (try clear hcz30_7); (try clear hcz30_8); (try clear hcz30_9); (try clear hcz8_0); (try clear hcz8_1); (try clear hfz19_0); (try clear hfz19_1); (try clear hfz24_0); (try clear hfz24_1); (try clear hfz24_10); (try clear hfz24_2); (try clear hfz24_3); (try clear hfz24_4); (try clear hfz24_5); (try clear hfz24_6); (try clear hfz24_7); (try clear hfz24_8); (try clear hfz24_9); (try clear hfz30_0); (try clear hfz30_1); (try clear hfz30_10); (try clear hfz30_2); (try clear hfz30_3); (try clear hfz30_4); (try clear hfz30_5); (try clear hfz30_6); (try clear hfz30_7); (try clear hfz30_8); (try clear hfz30_9); (try clear hfz8_0); (try clear hfz8_1); (try clear hx113_0); (try clear p113); (try clear p2); (try clear q113)
        obtain ⟨kq, x45_17, rfl, HA, HJ17, HO_3, HO_26, HO_133000, HO_133004, HO_133010, BK107, BK132, HB⟩ := hcut
        cases kq with
                | zero => exact absurd HA.out (by simp [laws_FnMachine.j1])
                | succ kj17 =>
         have H := HA.out; clear HA
         simp only [laws_FnMachine.j1] at H
         by_cases c32 : x45_17 = true
         ·subst c32
          have H1 : (some false) = some r := by rw [if_pos rfl] at H; exact H
          clear H; have H := H1; clear H1
          exact absurd ((Option.some.inj H).trans HT.out) (by decide)
         ·replace c32 := Bool.eq_false_iff.mpr c32
          subst c32
          have H1 : ((laws_pow.f kj17 (wrap64 (t105 + 1))).bind fun t134 => ((impl_MachineRun.f kj17 t114 t117 t118 t119 t120 t123 t124 t125 t126 t127 t128 (wrap64 ((wrap64 (3 * t134)) + 2))).bind fun bt135 => ((impl_MachineVerdict.f kj17 bt135.1 bt135.2.1 bt135.2.2.1 bt135.2.2.2.1 bt135.2.2.2.2.1 bt135.2.2.2.2.2.1 bt135.2.2.2.2.2.2.1 bt135.2.2.2.2.2.2.2.1 bt135.2.2.2.2.2.2.2.2.1 bt135.2.2.2.2.2.2.2.2.2.1 bt135.2.2.2.2.2.2.2.2.2.2).bind fun bt152 => (if bt152.2 = true then (if bt152.1 = t108 then (if (bt135.2.2.2.2.2.2.2.2.2.2.length : Int) > (rd y110 x28_1) then (some false) else ((laws_pow.f kj17 (wrap64 (t105 + 1))).bind fun t154 => (if bt135.2.2.2.2.2.2.2.1 > (wrap64 ((wrap64 (3 * t154)) + 2)) then (some false) else (if (rd y110 x28_1) = 0 then (if bt135.2.2.2.2.2.2.2.2.2.1 = 0 then (laws_FnMachine.l0 kj17 t102 t108 y110 (y110.length : Int) (wrap64 (x28_1 + 1)) t105 t106) else (some false)) else (laws_FnMachine.l0 kj17 t102 t108 y110 (y110.length : Int) (wrap64 (x28_1 + 1)) t105 t106))))) else (some false)) else (some false))))) = some r := by rw [if_neg (show ¬ (false = true) by decide)] at H; exact H
          clear H; have H := H1; clear H1
          replace H := Option.bind_eq_some_iff.mp H
          obtain ⟨t134, A330, H⟩ := H
          replace H : ((impl_MachineRun.f kj17 t114 t117 t118 t119 t120 t123 t124 t125 t126 t127 t128 (wrap64 ((wrap64 (3 * t134)) + 2))).bind fun bt135 => ((impl_MachineVerdict.f kj17 bt135.1 bt135.2.1 bt135.2.2.1 bt135.2.2.2.1 bt135.2.2.2.2.1 bt135.2.2.2.2.2.1 bt135.2.2.2.2.2.2.1 bt135.2.2.2.2.2.2.2.1 bt135.2.2.2.2.2.2.2.2.1 bt135.2.2.2.2.2.2.2.2.2.1 bt135.2.2.2.2.2.2.2.2.2.2).bind fun bt152 => (if bt152.2 = true then (if bt152.1 = t108 then (if (bt135.2.2.2.2.2.2.2.2.2.2.length : Int) > (rd y110 x28_1) then (some false) else ((laws_pow.f kj17 (wrap64 (t105 + 1))).bind fun t154 => (if bt135.2.2.2.2.2.2.2.1 > (wrap64 ((wrap64 (3 * t154)) + 2)) then (some false) else (if (rd y110 x28_1) = 0 then (if bt135.2.2.2.2.2.2.2.2.2.1 = 0 then (laws_FnMachine.l0 kj17 t102 t108 y110 (y110.length : Int) (wrap64 (x28_1 + 1)) t105 t106) else (some false)) else (laws_FnMachine.l0 kj17 t102 t108 y110 (y110.length : Int) (wrap64 (x28_1 + 1)) t105 t106))))) else (some false)) else (some false)))) = some r := H
          have A33 := Aside0.mk A330; clear A330
          replace H := Option.bind_eq_some_iff.mp H
          obtain ⟨⟨t135, t138, t139, t140, t141, t144, t145, t146, t147, t148, t149⟩, A340, H⟩ := H
          replace H : ((impl_MachineVerdict.f kj17 t135 t138 t139 t140 t141 t144 t145 t146 t147 t148 t149).bind fun bt152 => (if bt152.2 = true then (if bt152.1 = t108 then (if (t149.length : Int) > (rd y110 x28_1) then (some false) else ((laws_pow.f kj17 (wrap64 (t105 + 1))).bind fun t154 => (if t146 > (wrap64 ((wrap64 (3 * t154)) + 2)) then (some false) else (if (rd y110 x28_1) = 0 then (if t148 = 0 then (laws_FnMachine.l0 kj17 t102 t108 y110 (y110.length : Int) (wrap64 (x28_1 + 1)) t105 t106) else (some false)) else (laws_FnMachine.l0 kj17 t102 t108 y110 (y110.length : Int) (wrap64 (x28_1 + 1)) t105 t106))))) else (some false)) else (some false))) = some r := H
          have A34 := Aside0.mk A340; clear A340
          replace H := Option.bind_eq_some_iff.mp H
          obtain ⟨⟨t152, t153⟩, A350, H⟩ := H
          replace H : (if t153 = true then (if t152 = t108 then (if (t149.length : Int) > (rd y110 x28_1) then (some false) else ((laws_pow.f kj17 (wrap64 (t105 + 1))).bind fun t154 => (if t146 > (wrap64 ((wrap64 (3 * t154)) + 2)) then (some false) else (if (rd y110 x28_1) = 0 then (if t148 = 0 then (laws_FnMachine.l0 kj17 t102 t108 y110 (y110.length : Int) (wrap64 (x28_1 + 1)) t105 t106) else (some false)) else (laws_FnMachine.l0 kj17 t102 t108 y110 (y110.length : Int) (wrap64 (x28_1 + 1)) t105 t106))))) else (some false)) else (some false)) = some r := H
          have A35 := Aside0.mk A350; clear A350
          by_cases c36 : t153 = true
          ·subst c36
           have H1 : (if t152 = t108 then (if (t149.length : Int) > (rd y110 x28_1) then (some false) else ((laws_pow.f kj17 (wrap64 (t105 + 1))).bind fun t154 => (if t146 > (wrap64 ((wrap64 (3 * t154)) + 2)) then (some false) else (if (rd y110 x28_1) = 0 then (if t148 = 0 then (laws_FnMachine.l0 kj17 t102 t108 y110 (y110.length : Int) (wrap64 (x28_1 + 1)) t105 t106) else (some false)) else (laws_FnMachine.l0 kj17 t102 t108 y110 (y110.length : Int) (wrap64 (x28_1 + 1)) t105 t106))))) else (some false)) = some r := by rw [if_pos rfl] at H; exact H
           clear H; have H := H1; clear H1
           by_cases c37 : t152 = t108
           ·rw [if_pos c37] at H
            have c37b0 : (t152 == t108) = true := beq_iff_eq.mpr c37; have c37b1 : (t152 != t108) = false := bne_eq_false_iff_eq.mpr c37; clear c37
            by_cases c38 : (t149.length : Int) > (rd y110 x28_1)
            ·rw [if_pos c38] at H
             have c38b0 : decide ((rd y110 x28_1) < (t149.length : Int)) = true := decide_eq_true c38; clear c38
             exact absurd ((Option.some.inj H).trans HT.out) (by decide)
            ·rw [if_neg c38] at H
             have c38b0 : decide ((rd y110 x28_1) < (t149.length : Int)) = false := decide_eq_false c38; clear c38
             replace H := Option.bind_eq_some_iff.mp H
             obtain ⟨t154, A390, H⟩ := H
             replace H : (if t146 > (wrap64 ((wrap64 (3 * t154)) + 2)) then (some false) else (if (rd y110 x28_1) = 0 then (if t148 = 0 then (laws_FnMachine.l0 kj17 t102 t108 y110 (y110.length : Int) (wrap64 (x28_1 + 1)) t105 t106) else (some false)) else (laws_FnMachine.l0 kj17 t102 t108 y110 (y110.length : Int) (wrap64 (x28_1 + 1)) t105 t106))) = some r := H
             have A39 := Aside0.mk A390; clear A390
             by_cases c40 : t146 > (wrap64 ((wrap64 (3 * t154)) + 2))
             ·rw [if_pos c40] at H
              have c40b0 : decide ((wrap64 ((wrap64 (3 * t154)) + 2)) < t146) = true := decide_eq_true c40; clear c40
              exact absurd ((Option.some.inj H).trans HT.out) (by decide)
             ·rw [if_neg c40] at H
              have c40b0 : decide ((wrap64 ((wrap64 (3 * t154)) + 2)) < t146) = false := decide_eq_false c40; clear c40
              by_cases c41 : (rd y110 x28_1) = 0
              ·rw [if_pos c41] at H
               have c41b0 : ((rd y110 x28_1) == 0) = true := beq_iff_eq.mpr c41; have c41b1 : ((rd y110 x28_1) != 0) = false := bne_eq_false_iff_eq.mpr c41; clear c41
               by_cases c42 : t148 = 0
               ·rw [if_pos c42] at H
                have c42b0 : (t148 == 0) = true := beq_iff_eq.mpr c42; have c42b1 : (t148 != 0) = false := bne_eq_false_iff_eq.mpr c42; clear c42
                have H' := Aside0.mk H
                clear H
                try go_wp2
                have n0_ := Aside0.mk (Kd.R_drew HO_3.out); have n1_ := Aside0.mk (Kd.R_drew HO_26.out); have n2_ := Aside0.mk (Kd.R_drew HO_133000.out); have n3_ := Aside0.mk (Kd.R_drew HO_133004.out); have n4_ := Aside0.mk (Kd.R_drew HO_133010.out); have n5_ := Aside0.mk (blk_drew BK107.out); have n6_ := Aside0.mk (blk_drew BK132.out); have n7_ := Aside0.mk (below_drew1 HB.out); clear HO_3; clear HO_26; clear HO_133000; clear HO_133004; clear HO_133010; clear BK107; clear BK132; clear HB; have HO_3 := n0_; have HO_26 := n1_; have HO_133000 := n2_; have HO_133004 := n3_; have HO_133010 := n4_; have BK107 := n5_; have BK132 := n6_; have HB := n7_; clear n0_ n1_ n2_ n3_ n4_ n5_ n6_ n7_
                refine start_ (n := 9) (S := fun w' => w'.cell? ⟨gb132, 0, none⟩ = some (.slice Ao22 t114.length co22) ∧ w'.cell? ⟨gb132, 1, none⟩ = some (.int .i64 t117) ∧ w'.cell? ⟨gb132, 2, none⟩ = some (.string t118) ∧ w'.cell? ⟨gb132, 3, none⟩ = some (.int .i64 t119) ∧ w'.cell? ⟨gb132, 4, none⟩ = some (.slice Ao25 t120.length co25) ∧ w'.cell? ⟨gb132, 5, none⟩ = some (.int .i64 t123) ∧ w'.cell? ⟨gb132, 6, none⟩ = some (.bool t124) ∧ w'.cell? ⟨gb132, 7, none⟩ = some (.int .i64 t125) ∧ w'.cell? ⟨gb132, 8, none⟩ = some (.int .i64 t126) ∧ w'.cell? ⟨gb132, 9, none⟩ = some (.int .i64 t127) ∧ w'.cell? ⟨gb132, 10, none⟩ = some (.slice Ao26 t128.length co26) ∧ w'.cell? ⟨gb107, 0, none⟩ = some (.int .i64 t105) ∧ w'.cell? ⟨gb107, 1, none⟩ = some (.string t106)) (ds := [8]) #[false, false, false, false, false, false, false, false, false] (by kernel_rfl) rfl rfl ⟨(blk_cell BK132.out 0).trans rfl, (blk_cell BK132.out 1).trans rfl, (blk_cell BK132.out 2).trans rfl, (blk_cell BK132.out 3).trans rfl, (blk_cell BK132.out 4).trans rfl, (blk_cell BK132.out 5).trans rfl, (blk_cell BK132.out 6).trans rfl, (blk_cell BK132.out 7).trans rfl, (blk_cell BK132.out 8).trans rfl, (blk_cell BK132.out 9).trans rfl, (blk_cell BK132.out 10).trans rfl, (blk_cell BK107.out 0).trans rfl, (blk_cell BK107.out 1).trans rfl⟩ (fun hHeld => ?_); refine with_tabW laws_FnMachine.tab11 laws_FnMachine.bits11 (fun HT_ HW_ => ?_)
                generalize wc.drew = w43 at HO_3 HO_26 HO_133000 HO_133004 HO_133010 BK107 BK132 HB hHeld ⊢
                refine pure_ (i := 1) (N := some 47) (v := ?_) (a' := ?_) #[false, true, false, false, false, false, false, false, false] rfl rfl (any_of HT_.out (by kernel_rfl)) (fun _ _ _ h => h) (Or.inl ⟨by rfl, ?_⟩) ?_ ?_
                rotate_left
                ·intro w'
                 go_simp
                 with_reducible rfl
                rotate_left
                ·simp only [Act.put, List.setIfInBounds_toArray, List.set_cons_zero, List.set_cons_succ, i64_w, i32_w]
                 rfl
                refine take_ (i := 0) (N := some 46) (v := ?_) (a' := ?_) #[true, true, false, false, false, false, false, false, false] rfl rfl (take_ofW HT_.out HW_.out (by kernel_rfl)) (fun _ _ _ h => h) (Or.inl ⟨by rfl, ?_⟩) hHeld ?_ ?_
                rotate_left
                ·rintro w' ⟨s0, s1, s2, s3, s4, s5, s6, s7, s8, s9, s10, s11, s12⟩
                 go_simp
                 with_reducible rfl
                rotate_left
                ·simp only [Act.put, List.setIfInBounds_toArray, List.set_cons_zero, List.set_cons_succ, i64_w, i32_w]
                 rfl
                refine take_ (i := 2) (N := some 48) (v := ?_) (a' := ?_) #[true, true, true, false, false, false, false, false, false] rfl rfl (take_ofW HT_.out HW_.out (by kernel_rfl)) (fun _ _ _ h => h) (Or.inl ⟨by rfl, ?_⟩) hHeld ?_ ?_
                rotate_left
                ·rintro w' ⟨s0, s1, s2, s3, s4, s5, s6, s7, s8, s9, s10, s11, s12⟩
                 go_simp
                 with_reducible rfl
                rotate_left
                ·simp only [Act.put, List.setIfInBounds_toArray, List.set_cons_zero, List.set_cons_succ, i64_w, i32_w]
                 rfl
                refine pure_ (i := 3) (N := some 49) (v := ?_) (a' := ?_) #[true, true, true, true, false, false, false, false, false] rfl rfl (any_of HT_.out (by kernel_rfl)) (fun _ _ _ h => h) (Or.inl ⟨by rfl, ?_⟩) ?_ ?_
                rotate_left
                ·intro w'
                 go_simp
                 with_reducible rfl
                rotate_left
                ·simp only [Act.put, List.setIfInBounds_toArray, List.set_cons_zero, List.set_cons_succ, i64_w, i32_w]
                 rfl
                refine one_ (i := 4) (N := some 50) #[true, true, true, true, true, false, false, false, false] rfl rfl (one_of HT_.out (by kernel_rfl)) (by decide) (fun K hK => ?_)
                refine goes_ Try.func44 (by kernel_rfl) rfl #[.int .i64 (wrap64 (t105 + 1))] (by rfl) rfl rfl (by (try simp only [List.map_toArray, List.map_cons, List.map_nil]); first | done | rfl | (simp only [List.length_drop, List.length_take]; rfl)) ?_
                with_reducible refine (laws_pow.calls kj17 (wrap64 (t105 + 1)) t134 _ A33.out).mono ?_
                rintro e w' ⟨rfl, ⟨nd, rfl⟩⟩
                refine ⟨_, rfl, ?_⟩
                refine hK.out _ _ ⟨(blk_cell BK132.out 0).trans rfl, (blk_cell BK132.out 1).trans rfl, (blk_cell BK132.out 2).trans rfl, (blk_cell BK132.out 3).trans rfl, (blk_cell BK132.out 4).trans rfl, (blk_cell BK132.out 5).trans rfl, (blk_cell BK132.out 6).trans rfl, (blk_cell BK132.out 7).trans rfl, (blk_cell BK132.out 8).trans rfl, (blk_cell BK132.out 9).trans rfl, (blk_cell BK132.out 10).trans rfl, (blk_cell BK107.out 0).trans rfl, (blk_cell BK107.out 1).trans rfl⟩ (fun hHeld => ?_)
                clear hK K
                refine norm_ (a' := ?_) ?_ ?_
                rotate_left
                ·show Act.put _ (some 50) _ = _
                 simp only [Act.put, List.setIfInBounds_toArray, List.set_cons_zero, List.set_cons_succ, i64_w, i32_w]
                 rfl
                refine pure_ (i := 5) (N := some 51) (v := ?_) (a' := ?_) #[true, true, true, true, true, true, false, false, false] rfl rfl (any_of HT_.out (by kernel_rfl)) (fun _ _ _ h => h) (Or.inl ⟨by rfl, ?_⟩) ?_ ?_
                rotate_left
                ·intro w'
                 go_simp
                 with_reducible rfl
                rotate_left
                ·simp only [Act.put, List.setIfInBounds_toArray, List.set_cons_zero, List.set_cons_succ, i64_w, i32_w]
                 rfl
                refine pure_ (i := 6) (N := some 52) (v := ?_) (a' := ?_) #[true, true, true, true, true, true, true, false, false] rfl rfl (any_of HT_.out (by kernel_rfl)) (fun _ _ _ h => h) (Or.inl ⟨by rfl, ?_⟩) ?_ ?_
                rotate_left
                ·intro w'
                 go_simp
                 with_reducible rfl
                rotate_left
                ·simp only [Act.put, List.setIfInBounds_toArray, List.set_cons_zero, List.set_cons_succ, i64_w, i32_w]
                 rfl
                refine one_ (i := 7) (N := some 53) #[true, true, true, true, true, true, true, true, false] rfl rfl (one_of HT_.out (by kernel_rfl)) (by decide) (fun K hK => ?_)
                refine goes_ Try.func41 (by kernel_rfl) rfl #[.agg #[.slice Ao22 t114.length co22, .int .i64 t117, .string t118, .int .i64 t119, .slice Ao25 t120.length co25, .int .i64 t123, .bool t124, .int .i64 t125, .int .i64 t126, .int .i64 t127, .slice Ao26 t128.length co26], .int .i64 (wrap64 ((wrap64 (3 * t134)) + 2))] (by rfl) rfl rfl (by (try simp only [List.map_toArray, List.map_cons, List.map_nil]); first | done | rfl | (simp only [List.length_drop, List.length_take]; rfl)) ?_
                with_reducible refine (impl_MachineRun.calls kj17 _ _ t114 t117 t118 t119 _ _ t120 t123 t124 t125 t126 t127 _ _ t128 (wrap64 ((wrap64 (3 * t134)) + 2)) t135 t138 t139 t140 t141 t144 t145 t146 t147 t148 t149 _ ?side1 ?side2 ?side3 ?side4 ?side5 ?side6 A34.out).mono ?_
                (case side1 => repeat (first | exact (Kd.R_reads' HO_133000.out).2.2 | (with_reducible refine Kd.C_alloc ?_ _) | (with_reducible refine Kd.C_drewN ?_ _) | (with_reducible refine Kd.C_drew ?_)))
                (case side2 => exact (Kd.R_reads' HO_133000.out).2.1)
                (case side3 => repeat (first | exact (Kd.R_reads' HO_133004.out).2.2 | (with_reducible refine Kd.C_alloc ?_ _) | (with_reducible refine Kd.C_drewN ?_ _) | (with_reducible refine Kd.C_drew ?_)))
                (case side4 => exact (Kd.R_reads' HO_133004.out).2.1)
                (case side5 => repeat (first | exact (Kd.R_reads' HO_133010.out).2.2 | (with_reducible refine Kd.C_alloc ?_ _) | (with_reducible refine Kd.C_drewN ?_ _) | (with_reducible refine Kd.C_drew ?_)))
                (case side6 => exact (Kd.R_reads' HO_133010.out).2.1)
                rintro e w44 ⟨v136, v142, v150, rfl, ho0, ho1, ho2, hb⟩
                refine ⟨_, rfl, ?_⟩
                have n0_ := re HO_3 (Kd.R_base ho0) hb; have n1_ := re HO_26 (Kd.R_base ho1) hb; have n2_ := re HO_133000 (Kd.R_base ho0) hb; have n3_ := re HO_133004 (Kd.R_base ho1) hb; have n4_ := re HO_133010 (Kd.R_base ho2) hb
                have n5_ := Aside0.mk (Kd.R_lower (Kd.R_new' (Kd.R_new' ho0 (Kd.R_lt (by (with_reducible repeat (first | apply Kd.R_alloc | apply Kd.R_drewN | apply Kd.R_drew)); exact HO_3.out))) (Kd.R_lt (by (with_reducible repeat (first | apply Kd.R_alloc | apply Kd.R_drewN | apply Kd.R_drew)); exact HO_133000.out))) (below_size (by repeat (first | (with_reducible first | exact HB.out | apply below_alloc | apply pw_below_drewN | apply below_drew1 | refine below_set ?_ GE107.out | refine below_set ?_ GE132.out) | exact HB.out))))
                have n6_ := Aside0.mk (Kd.R_lower (Kd.R_new' (Kd.R_new' ho1 (Kd.R_lt (by (with_reducible repeat (first | apply Kd.R_alloc | apply Kd.R_drewN | apply Kd.R_drew)); exact HO_26.out))) (Kd.R_lt (by (with_reducible repeat (first | apply Kd.R_alloc | apply Kd.R_drewN | apply Kd.R_drew)); exact HO_133004.out))) (below_size (by repeat (first | (with_reducible first | exact HB.out | apply below_alloc | apply pw_below_drewN | apply below_drew1 | refine below_set ?_ GE107.out | refine below_set ?_ GE132.out) | exact HB.out))))
                have n7_ := Aside0.mk (Kd.R_lower (Kd.R_new' ho2 (Kd.R_lt (by (with_reducible repeat (first | apply Kd.R_alloc | apply Kd.R_drewN | apply Kd.R_drew)); exact HO_133010.out))) (below_size (by repeat (first | (with_reducible first | exact HB.out | apply below_alloc | apply pw_below_drewN | apply below_drew1 | refine below_set ?_ GE107.out | refine below_set ?_ GE132.out) | exact HB.out))))
                have n8_ := bb BK107 hb; have n9_ := bb BK132 hb; have n10_ := bs2 HB hb GE107 GE132; clear HO_3; clear HO_26; clear HO_133000; clear HO_133004; clear HO_133010; clear BK107; clear BK132; clear HB; have HO_3 := n0_; have HO_26 := n1_; have HO_133000 := n2_; have HO_133004 := n3_; have HO_133010 := n4_; have HO137 := n5_; have HO143 := n6_; have HO151 := n7_; have BK107 := n8_; have BK132 := n9_; have HB := n10_; clear n0_ n1_ n2_ n3_ n4_ n5_ n6_ n7_ n8_ n9_ n10_
                (try clear hb)
                (try clear hb2)
                (try clear hk)
                (try clear hi)
                (try clear ho0)
                (try clear ho1)
                (try clear ho2)
                obtain ⟨Ao45, co45, eo45⟩ := Kd.R_slice HO137.out
                (first | subst eo45 | (injection eo45 with f1_ f2_ f3_; have f4_ := f1_.symm; have f5_ := f3_.symm; clear f1_ f2_ f3_; subst f4_; subst f5_))
                obtain ⟨Ao50, co50, eo50⟩ := Kd.R_slice HO143.out
                (first | subst eo50 | (injection eo50 with f1_ f2_ f3_; have f4_ := f1_.symm; have f5_ := f3_.symm; clear f1_ f2_ f3_; subst f4_; subst f5_))
                obtain ⟨Ao57, co57, eo57⟩ := Kd.R_slice HO151.out
                (first | subst eo57 | (injection eo57 with f1_ f2_ f3_; have f4_ := f1_.symm; have f5_ := f3_.symm; clear f1_ f2_ f3_; subst f4_; subst f5_))
                refine hK.out _ _ ⟨(blk_cell BK132.out 0).trans rfl, (blk_cell BK132.out 1).trans rfl, (blk_cell BK132.out 2).trans rfl, (blk_cell BK132.out 3).trans rfl, (blk_cell BK132.out 4).trans rfl, (blk_cell BK132.out 5).trans rfl, (blk_cell BK132.out 6).trans rfl, (blk_cell BK132.out 7).trans rfl, (blk_cell BK132.out 8).trans rfl, (blk_cell BK132.out 9).trans rfl, (blk_cell BK132.out 10).trans rfl, (blk_cell BK107.out 0).trans rfl, (blk_cell BK107.out 1).trans rfl⟩ (fun hHeld => ?_)
                clear hK K
                refine norm_ (a' := ?_) ?_ ?_
                rotate_left
                ·show Act.put _ (some 53) _ = _
                 simp only [Act.put, List.setIfInBounds_toArray, List.set_cons_zero, List.set_cons_succ, i64_w, i32_w]
                 rfl
                refine last_ (i := 8) (N := none) #[true, true, true, true, true, true, true, true, true] rfl rfl (one_of HT_.out (by kernel_rfl)) (by decide) (fun K hK => ?_)
                have hs46 : w44.cell? ⟨gb132, 0, none⟩ = some (.slice Ao22 t114.length co22) := (blk_cell BK132.out 0).trans rfl; have hfs46 := blk_frozen BK132.out 0; have hns46_0 := NB107_132.out; have hms46_0 := NB132_107.out; have hs47 : w44.cell? ⟨gb132, 1, none⟩ = some (.int .i64 t117) := (blk_cell BK132.out 1).trans rfl; have hfs47 := blk_frozen BK132.out 1; have hns47_0 := NB107_132.out; have hms47_0 := NB132_107.out; have hs48 : w44.cell? ⟨gb132, 2, none⟩ = some (.string t118) := (blk_cell BK132.out 2).trans rfl; have hfs48 := blk_frozen BK132.out 2; have hns48_0 := NB107_132.out; have hms48_0 := NB132_107.out; have hs49 : w44.cell? ⟨gb132, 3, none⟩ = some (.int .i64 t119) := (blk_cell BK132.out 3).trans rfl; have hfs49 := blk_frozen BK132.out 3; have hns49_0 := NB107_132.out; have hms49_0 := NB132_107.out; have hs51 : w44.cell? ⟨gb132, 4, none⟩ = some (.slice Ao25 t120.length co25) := (blk_cell BK132.out 4).trans rfl; have hfs51 := blk_frozen BK132.out 4; have hns51_0 := NB107_132.out; have hms51_0 := NB132_107.out; have hs52 : w44.cell? ⟨gb132, 5, none⟩ = some (.int .i64 t123) := (blk_cell BK132.out 5).trans rfl; have hfs52 := blk_frozen BK132.out 5; have hns52_0 := NB107_132.out; have hms52_0 := NB132_107.out; have hs53 : w44.cell? ⟨gb132, 6, none⟩ = some (.bool t124) := (blk_cell BK132.out 6).trans rfl; have hfs53 := blk_frozen BK132.out 6; have hns53_0 := NB107_132.out; have hms53_0 := NB132_107.out; have hs54 : w44.cell? ⟨gb132, 7, none⟩ = some (.int .i64 t125) := (blk_cell BK132.out 7).trans rfl; have hfs54 := blk_frozen BK132.out 7; have hns54_0 := NB107_132.out; have hms54_0 := NB132_107.out; have hs55 : w44.cell? ⟨gb132, 8, none⟩ = some (.int .i64 t126) := (blk_cell BK132.out 8).trans rfl; have hfs55 := blk_frozen BK132.out 8; have hns55_0 := NB107_132.out; have hms55_0 := NB132_107.out; have hs56 : w44.cell? ⟨gb132, 9, none⟩ = some (.int .i64 t127) := (blk_cell BK132.out 9).trans rfl; have hfs56 := blk_frozen BK132.out 9; have hns56_0 := NB107_132.out; have hms56_0 := NB132_107.out; have hs58 : w44.cell? ⟨gb132, 10, none⟩ = some (.slice Ao26 t128.length co26) := (blk_cell BK132.out 10).trans rfl; have hfs58 := blk_frozen BK132.out 10; have hns58_0 := NB107_132.out; have hms58_0 := NB132_107.out
                refine skip_ (w1 := ?_) (by rfl) rfl ?_ ?_
                rotate_left
                ·go_simp
                 rfl
                refine hK.out _ _ ?_
                clear hK K
                refine done_ (done_of HT_.out (by kernel_rfl)) ?_
                have hnb59 := NB132_107.out; have hnc59 := NB107_132.out; have hcz60_0 : w44.cell? ⟨gb132, 0, none⟩ = some (.slice Ao22 t114.length co22) := (blk_cell BK132.out 0).trans rfl; have hcz60_1 : w44.cell? ⟨gb132, 1, none⟩ = some (.int .i64 t117) := (blk_cell BK132.out 1).trans rfl; have hcz60_2 : w44.cell? ⟨gb132, 2, none⟩ = some (.string t118) := (blk_cell BK132.out 2).trans rfl; have hcz60_3 : w44.cell? ⟨gb132, 3, none⟩ = some (.int .i64 t119) := (blk_cell BK132.out 3).trans rfl; have hcz60_4 : w44.cell? ⟨gb132, 4, none⟩ = some (.slice Ao25 t120.length co25) := (blk_cell BK132.out 4).trans rfl; have hcz60_5 : w44.cell? ⟨gb132, 5, none⟩ = some (.int .i64 t123) := (blk_cell BK132.out 5).trans rfl; have hcz60_6 : w44.cell? ⟨gb132, 6, none⟩ = some (.bool t124) := (blk_cell BK132.out 6).trans rfl; have hcz60_7 : w44.cell? ⟨gb132, 7, none⟩ = some (.int .i64 t125) := (blk_cell BK132.out 7).trans rfl; have hcz60_8 : w44.cell? ⟨gb132, 8, none⟩ = some (.int .i64 t126) := (blk_cell BK132.out 8).trans rfl; have hcz60_9 : w44.cell? ⟨gb132, 9, none⟩ = some (.int .i64 t127) := (blk_cell BK132.out 9).trans rfl; have hcz60_10 : w44.cell? ⟨gb132, 10, none⟩ = some (.slice Ao26 t128.length co26) := (blk_cell BK132.out 10).trans rfl; have hfz60_0 := blk_frozen BK132.out 0; have hfz60_1 := blk_frozen BK132.out 1; have hfz60_2 := blk_frozen BK132.out 2; have hfz60_3 := blk_frozen BK132.out 3; have hfz60_4 := blk_frozen BK132.out 4; have hfz60_5 := blk_frozen BK132.out 5; have hfz60_6 := blk_frozen BK132.out 6; have hfz60_7 := blk_frozen BK132.out 7; have hfz60_8 := blk_frozen BK132.out 8; have hfz60_9 := blk_frozen BK132.out 9; have hfz60_10 := blk_frozen BK132.out 10
                try go_wp2_with (first | ((with_reducible refine gate_callee (f := 34) rfl ?_); refine goesL_ (some 56) rfl rfl Try.func34 (by kernel_rfl) rfl #[.agg #[.slice Ao45 t135.length co45, .int .i64 t138, .string t139, .int .i64 t140, .slice Ao50 t141.length co50, .int .i64 t144, .bool t145, .int .i64 t146, .int .i64 t147, .int .i64 t148, .slice Ao57 t149.length co57]] rfl (by (try simp only [List.map_toArray, List.map_cons, List.map_nil]); first | done | rfl | (simp only [List.length_drop, List.length_take]; rfl)) ?_; (with_reducible refine (impl_MachineVerdict.calls kj17 _ _ t135 t138 t139 t140 _ _ t141 t144 t145 t146 t147 t148 _ _ t149 t152 true _ ?side1 ?side2 ?side3 ?side4 ?side5 ?side6 A35.out).mono ?_); (case side1 => refine (Kd.R_reads' (e := 4) (base := w.heap.size) (ok := fun k_ => ((True ∧ some k_ ≠ (.slice Ao9 t102.length co9 : Value).ownBlock) ∧ some k_ ≠ (.slice Ao22 t114.length co22 : Value).ownBlock)) (n := t135.length) (c := co45) ?_).2.2; exact (by (with_reducible repeat (first | apply Kd.R_alloc | apply Kd.R_drewN | apply Kd.R_drew)); exact (rf HO137 BK132))); (case side2 => exact (Kd.R_reads' HO137.out).2.1); (case side3 => refine (Kd.R_reads' (e := 3) (base := w.heap.size) (ok := fun k_ => ((True ∧ some k_ ≠ (.slice (some ad113) y110.length co13 : Value).ownBlock) ∧ some k_ ≠ (.slice Ao25 t120.length co25 : Value).ownBlock)) (n := t141.length) (c := co50) ?_).2.2; exact (by (with_reducible repeat (first | apply Kd.R_alloc | apply Kd.R_drewN | apply Kd.R_drew)); exact (rf HO143 BK132))); (case side4 => exact (Kd.R_reads' HO143.out).2.1); (case side5 => refine (Kd.R_reads' (e := 86) (base := w.heap.size) (ok := fun k_ => (True ∧ some k_ ≠ (.slice Ao26 t128.length co26 : Value).ownBlock)) (n := t149.length) (c := co57) ?_).2.2; exact (by (with_reducible repeat (first | apply Kd.R_alloc | apply Kd.R_drewN | apply Kd.R_drew)); exact (rf HO151 BK132))); (case side6 => exact (Kd.R_reads' HO151.out).2.1); rintro e w61 ⟨rfl, hb⟩; refine ⟨_, rfl, ?_⟩; have n0_ := rbf HO_3 BK132 hb; have n1_ := rbf HO_26 BK132 hb; have n2_ := rbf HO_133000 BK132 hb; have n3_ := rbf HO_133004 BK132 hb; have n4_ := rbf HO_133010 BK132 hb; have n5_ := rbf HO137 BK132 hb; have n6_ := rbf HO143 BK132 hb; have n7_ := rbf HO151 BK132 hb; have n8_ := Aside0.mk (blk_below (dq BK107 NB107_132) hb); have n9_ := Aside0.mk (blk_below (g := gb132) (o := .cells #[.slice Ao45 t135.length co45, .int .i64 t138, .string t139, .int .i64 t140, .slice Ao50 t141.length co50, .int .i64 t144, .bool t145, .int .i64 t146, .int .i64 t147, .int .i64 t148, .slice Ao57 t149.length co57] 36 (0, 0)) (by (with_reducible repeat (first | refine blk_drewN ?_ _ | refine blk_drew ?_ | refine blk_alloc ?_ _)); exact bp11 BK132.out) hb); have n10_ := bs2 HB hb GE107 GE132; clear HO_3; clear HO_26; clear HO_133000; clear HO_133004; clear HO_133010; clear HO137; clear HO143; clear HO151; clear BK107; clear BK132; clear HB; have HO_3 := n0_; have HO_26 := n1_; have HO_133000 := n2_; have HO_133004 := n3_; have HO_133010 := n4_; have HO137 := n5_; have HO143 := n6_; have HO151 := n7_; have BK107 := n8_; have BK132 := n9_; have HB := n10_; clear n0_ n1_ n2_ n3_ n4_ n5_ n6_ n7_ n8_ n9_ n10_; (try clear hb); (try clear hb2); (try clear hk); (try clear hi)))
                have n0_ := Aside0.mk (Kd.R_drew HO_3.out); have n1_ := Aside0.mk (Kd.R_drew HO_26.out); have n2_ := Aside0.mk (Kd.R_drew HO_133000.out); have n3_ := Aside0.mk (Kd.R_drew HO_133004.out); have n4_ := Aside0.mk (Kd.R_drew HO_133010.out); have n5_ := Aside0.mk (Kd.R_drew HO137.out); have n6_ := Aside0.mk (Kd.R_drew HO143.out); have n7_ := Aside0.mk (Kd.R_drew HO151.out); have n8_ := Aside0.mk (blk_drew BK107.out); have n9_ := Aside0.mk (blk_drew BK132.out); have n10_ := Aside0.mk (below_drew1 HB.out); clear HO_3; clear HO_26; clear HO_133000; clear HO_133004; clear HO_133010; clear HO137; clear HO143; clear HO151; clear BK107; clear BK132; clear HB; have HO_3 := n0_; have HO_26 := n1_; have HO_133000 := n2_; have HO_133004 := n3_; have HO_133010 := n4_; have HO137 := n5_; have HO143 := n6_; have HO151 := n7_; have BK107 := n8_; have BK132 := n9_; have HB := n10_; clear n0_ n1_ n2_ n3_ n4_ n5_ n6_ n7_ n8_ n9_ n10_
                refine start_ (n := 34) (S := fun w' => w'.cell? ⟨gb132, 0, none⟩ = some (.slice Ao45 t135.length co45) ∧ w'.cell? ⟨gb132, 1, none⟩ = some (.int .i64 t138) ∧ w'.cell? ⟨gb132, 2, none⟩ = some (.string t139) ∧ w'.cell? ⟨gb132, 3, none⟩ = some (.int .i64 t140) ∧ w'.cell? ⟨gb132, 4, none⟩ = some (.slice Ao50 t141.length co50) ∧ w'.cell? ⟨gb132, 5, none⟩ = some (.int .i64 t144) ∧ w'.cell? ⟨gb132, 6, none⟩ = some (.bool t145) ∧ w'.cell? ⟨gb132, 7, none⟩ = some (.int .i64 t146) ∧ w'.cell? ⟨gb132, 8, none⟩ = some (.int .i64 t147) ∧ w'.cell? ⟨gb132, 9, none⟩ = some (.int .i64 t148) ∧ w'.cell? ⟨gb132, 10, none⟩ = some (.slice Ao57 t149.length co57) ∧ w'.cell? ⟨gb107, 0, none⟩ = some (.int .i64 t105) ∧ w'.cell? ⟨gb107, 1, none⟩ = some (.string t106)) (ds := []) #[false, false, false, false, false, false, false, false, false, false, false, false, false, false, false, false, false, false, false, false, false, false, false, false, false, false, false, false, false, false, false, false, false, false] (by kernel_rfl) rfl rfl ⟨(blk_cell BK132.out 0).trans rfl, (blk_cell BK132.out 1).trans rfl, (blk_cell BK132.out 2).trans rfl, (blk_cell BK132.out 3).trans rfl, (blk_cell BK132.out 4).trans rfl, (blk_cell BK132.out 5).trans rfl, (blk_cell BK132.out 6).trans rfl, (blk_cell BK132.out 7).trans rfl, (blk_cell BK132.out 8).trans rfl, (blk_cell BK132.out 9).trans rfl, (blk_cell BK132.out 10).trans rfl, (blk_cell BK107.out 0).trans rfl, (blk_cell BK107.out 1).trans rfl⟩ (fun hHeld => ?_); refine with_tabW laws_FnMachine.tab13 laws_FnMachine.bits13 (fun HT_ HW_ => ?_)
                generalize w61.drew = w62 at HO_3 HO_26 HO_133000 HO_133004 HO_133010 HO137 HO143 HO151 BK107 BK132 HB hHeld ⊢
                refine pure_ (i := 0) (N := some 59) (v := ?_) (a' := ?_) #[true, false, false, false, false, false, false, false, false, false, false, false, false, false, false, false, false, false, false, false, false, false, false, false, false, false, false, false, false, false, false, false, false, false] rfl rfl (any_of HT_.out (by kernel_rfl)) (fun _ _ _ h => h) (Or.inl ⟨by rfl, ?_⟩) ?_ ?_
                rotate_left
                ·intro w'
                 go_simp
                 with_reducible rfl
                rotate_left
                ·simp only [Act.put, List.setIfInBounds_toArray, List.set_cons_zero, List.set_cons_succ, i64_w, i32_w]
                 rfl
                refine pure_ (i := 1) (N := some 60) (v := ?_) (a' := ?_) #[true, true, false, false, false, false, false, false, false, false, false, false, false, false, false, false, false, false, false, false, false, false, false, false, false, false, false, false, false, false, false, false, false, false] rfl rfl (any_of HT_.out (by kernel_rfl)) (fun _ _ _ h => h) (Or.inl ⟨by rfl, ?_⟩) ?_ ?_
                rotate_left
                ·intro w'
                 go_simp
                 with_reducible rfl
                rotate_left
                ·simp only [Act.put, List.setIfInBounds_toArray, List.set_cons_zero, List.set_cons_succ, i64_w, i32_w]
                 rfl
                refine pure_ (i := 2) (N := some 61) (v := ?_) (a' := ?_) #[true, true, true, false, false, false, false, false, false, false, false, false, false, false, false, false, false, false, false, false, false, false, false, false, false, false, false, false, false, false, false, false, false, false] rfl rfl (any_of HT_.out (by kernel_rfl)) (fun _ _ _ h => h) (Or.inl ⟨by rfl, ?_⟩) ?_ ?_
                rotate_left
                ·intro w'
                 go_simp
                 with_reducible rfl
                rotate_left
                ·simp only [Act.put, List.setIfInBounds_toArray, List.set_cons_zero, List.set_cons_succ, i64_w, i32_w]
                 rfl
                refine pure_ (i := 3) (N := some 62) (v := ?_) (a' := ?_) #[true, true, true, true, false, false, false, false, false, false, false, false, false, false, false, false, false, false, false, false, false, false, false, false, false, false, false, false, false, false, false, false, false, false] rfl rfl (any_of HT_.out (by kernel_rfl)) (fun _ _ _ h => h) (Or.inl ⟨by rfl, ?_⟩) ?_ ?_
                rotate_left
                ·intro w'
                 go_simp
                 with_reducible rfl
                rotate_left
                ·simp only [Act.put, List.setIfInBounds_toArray, List.set_cons_zero, List.set_cons_succ, i64_w, i32_w]
                 rfl
                refine pure_ (i := 4) (N := some 63) (v := ?_) (a' := ?_) #[true, true, true, true, true, false, false, false, false, false, false, false, false, false, false, false, false, false, false, false, false, false, false, false, false, false, false, false, false, false, false, false, false, false] rfl rfl (any_of HT_.out (by kernel_rfl)) (fun _ _ _ h => h) (Or.inl ⟨by rfl, ?_⟩) ?_ ?_
                rotate_left
                ·intro w'
                 go_simp
                 with_reducible rfl
                rotate_left
                ·simp only [Act.put, List.setIfInBounds_toArray, List.set_cons_zero, List.set_cons_succ, i64_w, i32_w]
                 rfl
                refine pure_ (i := 5) (N := some 64) (v := ?_) (a' := ?_) #[true, true, true, true, true, true, false, false, false, false, false, false, false, false, false, false, false, false, false, false, false, false, false, false, false, false, false, false, false, false, false, false, false, false] rfl rfl (any_of HT_.out (by kernel_rfl)) (fun _ _ _ h => h) (Or.inl ⟨by rfl, ?_⟩) ?_ ?_
                rotate_left
                ·intro w'
                 go_simp
                 with_reducible rfl
                rotate_left
                ·simp only [Act.put, List.setIfInBounds_toArray, List.set_cons_zero, List.set_cons_succ, i64_w, i32_w]
                 rfl
                refine pure_ (i := 6) (N := some 65) (v := ?_) (a' := ?_) #[true, true, true, true, true, true, true, false, false, false, false, false, false, false, false, false, false, false, false, false, false, false, false, false, false, false, false, false, false, false, false, false, false, false] rfl rfl (any_of HT_.out (by kernel_rfl)) (fun _ _ _ h => h) (Or.inl ⟨by rfl, ?_⟩) ?_ ?_
                rotate_left
                ·intro w'
                 go_simp
                 with_reducible rfl
                rotate_left
                ·simp only [Act.put, List.setIfInBounds_toArray, List.set_cons_zero, List.set_cons_succ, i64_w, i32_w]
                 rfl
                refine pure_ (i := 7) (N := some 66) (v := ?_) (a' := ?_) #[true, true, true, true, true, true, true, true, false, false, false, false, false, false, false, false, false, false, false, false, false, false, false, false, false, false, false, false, false, false, false, false, false, false] rfl rfl (any_of HT_.out (by kernel_rfl)) (fun _ _ _ h => h) (Or.inl ⟨by rfl, ?_⟩) ?_ ?_
                rotate_left
                ·intro w'
                 go_simp
                 with_reducible rfl
                rotate_left
                ·simp only [Act.put, List.setIfInBounds_toArray, List.set_cons_zero, List.set_cons_succ, i64_w, i32_w]
                 rfl
                refine pure_ (i := 8) (N := some 67) (v := ?_) (a' := ?_) #[true, true, true, true, true, true, true, true, true, false, false, false, false, false, false, false, false, false, false, false, false, false, false, false, false, false, false, false, false, false, false, false, false, false] rfl rfl (any_of HT_.out (by kernel_rfl)) (fun _ _ _ h => h) (Or.inl ⟨by rfl, ?_⟩) ?_ ?_
                rotate_left
                ·intro w'
                 go_simp
                 with_reducible rfl
                rotate_left
                ·simp only [Act.put, List.setIfInBounds_toArray, List.set_cons_zero, List.set_cons_succ, i64_w, i32_w]
                 rfl
                refine pure_ (i := 11) (N := some 70) (v := ?_) (a' := ?_) #[true, true, true, true, true, true, true, true, true, false, false, true, false, false, false, false, false, false, false, false, false, false, false, false, false, false, false, false, false, false, false, false, false, false] rfl rfl (any_of HT_.out (by kernel_rfl)) (fun _ _ _ h => h) (Or.inl ⟨by rfl, ?_⟩) ?_ ?_
                rotate_left
                ·intro w'
                 go_simp
                 with_reducible rfl
                rotate_left
                ·simp only [Act.put, List.setIfInBounds_toArray, List.set_cons_zero, List.set_cons_succ, i64_w, i32_w]
                 rfl
                refine take_ (i := 9) (N := some 68) (v := ?_) (a' := ?_) #[true, true, true, true, true, true, true, true, true, true, false, true, false, false, false, false, false, false, false, false, false, false, false, false, false, false, false, false, false, false, false, false, false, false] rfl rfl (take_ofW HT_.out HW_.out (by kernel_rfl)) (fun _ _ _ h => h) (Or.inl ⟨by rfl, ?_⟩) hHeld ?_ ?_
                rotate_left
                ·rintro w' ⟨s0, s1, s2, s3, s4, s5, s6, s7, s8, s9, s10, s11, s12⟩
                 go_simp
                 with_reducible rfl
                rotate_left
                ·simp only [Act.put, List.setIfInBounds_toArray, List.set_cons_zero, List.set_cons_succ, i64_w, i32_w]
                 rfl
                refine pure_ (i := 10) (N := some 69) (v := ?_) (a' := ?_) #[true, true, true, true, true, true, true, true, true, true, true, true, false, false, false, false, false, false, false, false, false, false, false, false, false, false, false, false, false, false, false, false, false, false] rfl rfl (any_of HT_.out (by kernel_rfl)) (fun _ _ _ h => h) (Or.inl ⟨by rfl, ?_⟩) ?_ ?_
                rotate_left
                ·intro w'
                 go_simp
                 with_reducible rfl
                rotate_left
                ·simp only [Act.put, List.setIfInBounds_toArray, List.set_cons_zero, List.set_cons_succ, i64_w, i32_w]
                 rfl
                refine pure_ (i := 12) (N := some 71) (v := ?_) (a' := ?_) #[true, true, true, true, true, true, true, true, true, true, true, true, true, false, false, false, false, false, false, false, false, false, false, false, false, false, false, false, false, false, false, false, false, false] rfl rfl (any_of HT_.out (by kernel_rfl)) (fun _ _ _ h => h) (Or.inl ⟨by rfl, ?_⟩) ?_ ?_
                rotate_left
                ·intro w'
                 go_simp
                 with_reducible rfl
                rotate_left
                ·simp only [Act.put, List.setIfInBounds_toArray, List.set_cons_zero, List.set_cons_succ, i64_w, i32_w]
                 rfl
                refine pure_ (i := 13) (N := some 72) (v := ?_) (a' := ?_) #[true, true, true, true, true, true, true, true, true, true, true, true, true, true, false, false, false, false, false, false, false, false, false, false, false, false, false, false, false, false, false, false, false, false] rfl rfl (any_of HT_.out (by kernel_rfl)) (fun _ _ _ h => h) (Or.inl ⟨by rfl, ?_⟩) ?_ ?_
                rotate_left
                ·intro w'
                 go_simp
                 with_reducible rfl
                rotate_left
                ·simp only [Act.put, List.setIfInBounds_toArray, List.set_cons_zero, List.set_cons_succ, i64_w, i32_w]
                 rfl
                refine pure_ (i := 14) (N := some 73) (v := ?_) (a' := ?_) #[true, true, true, true, true, true, true, true, true, true, true, true, true, true, true, false, false, false, false, false, false, false, false, false, false, false, false, false, false, false, false, false, false, false] rfl rfl (any_of HT_.out (by kernel_rfl)) (fun _ _ _ h => h) (Or.inl ⟨by rfl, ?_⟩) ?_ ?_
                rotate_left
                ·intro w'
                 go_simp
                 with_reducible rfl
                rotate_left
                ·simp only [Act.put, List.setIfInBounds_toArray, List.set_cons_zero, List.set_cons_succ, i64_w, i32_w]
                 rfl
                refine pure_ (i := 15) (N := some 74) (v := ?_) (a' := ?_) #[true, true, true, true, true, true, true, true, true, true, true, true, true, true, true, true, false, false, false, false, false, false, false, false, false, false, false, false, false, false, false, false, false, false] rfl rfl (any_of HT_.out (by kernel_rfl)) (fun _ _ _ h => h) (Or.inl ⟨by rfl, ?_⟩) ?_ ?_
                rotate_left
                ·intro w'
                 go_simp
                 with_reducible rfl
                rotate_left
                ·simp only [Act.put, List.setIfInBounds_toArray, List.set_cons_zero, List.set_cons_succ, i64_w, i32_w]
                 rfl
                refine pure_ (i := 17) (N := some 76) (v := ?_) (a' := ?_) #[true, true, true, true, true, true, true, true, true, true, true, true, true, true, true, true, false, true, false, false, false, false, false, false, false, false, false, false, false, false, false, false, false, false] rfl rfl (any_of HT_.out (by kernel_rfl)) (fun _ _ _ h => h) (Or.inl ⟨by rfl, ?_⟩) ?_ ?_
                rotate_left
                ·intro w'
                 go_simp
                 with_reducible rfl
                rotate_left
                ·simp only [Act.put, List.setIfInBounds_toArray, List.set_cons_zero, List.set_cons_succ, i64_w, i32_w]
                 rfl
                refine take_ (i := 16) (N := some 75) (v := ?_) (a' := ?_) #[true, true, true, true, true, true, true, true, true, true, true, true, true, true, true, true, true, true, false, false, false, false, false, false, false, false, false, false, false, false, false, false, false, false] rfl rfl (take_ofW HT_.out HW_.out (by kernel_rfl)) (fun _ _ _ h => h) (Or.inl ⟨by rfl, ?_⟩) hHeld ?_ ?_
                rotate_left
                ·rintro w' ⟨s0, s1, s2, s3, s4, s5, s6, s7, s8, s9, s10, s11, s12⟩
                 go_simp
                 with_reducible rfl
                rotate_left
                ·simp only [Act.put, List.setIfInBounds_toArray, List.set_cons_zero, List.set_cons_succ, i64_w, i32_w]
                 rfl
                refine take_ (i := 18) (N := some 77) (v := ?_) (a' := ?_) #[true, true, true, true, true, true, true, true, true, true, true, true, true, true, true, true, true, true, true, false, false, false, false, false, false, false, false, false, false, false, false, false, false, false] rfl rfl (take_ofW HT_.out HW_.out (by kernel_rfl)) (fun _ _ _ h => h) (Or.inl ⟨by rfl, ?_⟩) hHeld ?_ ?_
                rotate_left
                ·rintro w' ⟨s0, s1, s2, s3, s4, s5, s6, s7, s8, s9, s10, s11, s12⟩
                 go_simp
                 with_reducible rfl
                rotate_left
                ·simp only [Act.put, List.setIfInBounds_toArray, List.set_cons_zero, List.set_cons_succ, i64_w, i32_w]
                 rfl
                refine pure_ (i := 19) (N := some 78) (v := ?_) (a' := ?_) #[true, true, true, true, true, true, true, true, true, true, true, true, true, true, true, true, true, true, true, true, false, false, false, false, false, false, false, false, false, false, false, false, false, false] rfl rfl (any_of HT_.out (by kernel_rfl)) (fun _ _ _ h => h) (Or.inl ⟨by rfl, ?_⟩) ?_ ?_
                rotate_left
                ·intro w'
                 go_simp
                 with_reducible rfl
                rotate_left
                ·simp only [Act.put, List.setIfInBounds_toArray, List.set_cons_zero, List.set_cons_succ, i64_w, i32_w]
                 rfl
                refine one_ (i := 20) (N := some 79) #[true, true, true, true, true, true, true, true, true, true, true, true, true, true, true, true, true, true, true, true, true, false, false, false, false, false, false, false, false, false, false, false, false, false] rfl rfl (one_of HT_.out (by kernel_rfl)) (by decide) (fun K hK => ?_)
                refine goes_ Try.func44 (by kernel_rfl) rfl #[.int .i64 (wrap64 (t105 + 1))] (by rfl) rfl rfl (by (try simp only [List.map_toArray, List.map_cons, List.map_nil]); first | done | rfl | (simp only [List.length_drop, List.length_take]; rfl)) ?_
                with_reducible refine (laws_pow.calls kj17 (wrap64 (t105 + 1)) t154 _ A39.out).mono ?_
                rintro e w' ⟨rfl, ⟨nd, rfl⟩⟩
                refine ⟨_, rfl, ?_⟩
                refine hK.out _ _ ⟨(blk_cell BK132.out 0).trans rfl, (blk_cell BK132.out 1).trans rfl, (blk_cell BK132.out 2).trans rfl, (blk_cell BK132.out 3).trans rfl, (blk_cell BK132.out 4).trans rfl, (blk_cell BK132.out 5).trans rfl, (blk_cell BK132.out 6).trans rfl, (blk_cell BK132.out 7).trans rfl, (blk_cell BK132.out 8).trans rfl, (blk_cell BK132.out 9).trans rfl, (blk_cell BK132.out 10).trans rfl, (blk_cell BK107.out 0).trans rfl, (blk_cell BK107.out 1).trans rfl⟩ (fun hHeld => ?_)
                clear hK K
                refine norm_ (a' := ?_) ?_ ?_
                rotate_left
                ·show Act.put _ (some 79) _ = _
                 simp only [Act.put, List.setIfInBounds_toArray, List.set_cons_zero, List.set_cons_succ, i64_w, i32_w]
                 rfl
                refine pure_ (i := 21) (N := some 80) (v := ?_) (a' := ?_) #[true, true, true, true, true, true, true, true, true, true, true, true, true, true, true, true, true, true, true, true, true, true, false, false, false, false, false, false, false, false, false, false, false, false] rfl rfl (any_of HT_.out (by kernel_rfl)) (fun _ _ _ h => h) (Or.inl ⟨by rfl, ?_⟩) ?_ ?_
                rotate_left
                ·intro w'
                 go_simp
                 with_reducible rfl
                rotate_left
                ·simp only [Act.put, List.setIfInBounds_toArray, List.set_cons_zero, List.set_cons_succ, i64_w, i32_w]
                 rfl
                refine pure_ (i := 22) (N := some 81) (v := ?_) (a' := ?_) #[true, true, true, true, true, true, true, true, true, true, true, true, true, true, true, true, true, true, true, true, true, true, true, false, false, false, false, false, false, false, false, false, false, false] rfl rfl (any_of HT_.out (by kernel_rfl)) (fun _ _ _ h => h) (Or.inl ⟨by rfl, ?_⟩) ?_ ?_
                rotate_left
                ·intro w'
                 go_simp
                 with_reducible rfl
                rotate_left
                ·simp only [Act.put, List.setIfInBounds_toArray, List.set_cons_zero, List.set_cons_succ, i64_w, i32_w]
                 rfl
                refine pure_ (i := 23) (N := some 82) (v := ?_) (a' := ?_) #[true, true, true, true, true, true, true, true, true, true, true, true, true, true, true, true, true, true, true, true, true, true, true, true, false, false, false, false, false, false, false, false, false, false] rfl rfl (any_of HT_.out (by kernel_rfl)) (fun _ _ _ h => h) (Or.inl ⟨by rfl, ?_⟩) ?_ ?_
                rotate_left
                ·intro w'
                 go_simp
                 with_reducible rfl
                rotate_left
                ·simp only [Act.put, List.setIfInBounds_toArray, List.set_cons_zero, List.set_cons_succ, i64_w, i32_w]
                 rfl
                refine pure_ (i := 24) (N := some 83) (v := ?_) (a' := ?_) #[true, true, true, true, true, true, true, true, true, true, true, true, true, true, true, true, true, true, true, true, true, true, true, true, true, false, false, false, false, false, false, false, false, false] rfl rfl (any_of HT_.out (by kernel_rfl)) (fun _ _ _ h => h) (Or.inl ⟨by rfl, ?_⟩) ?_ ?_
                rotate_left
                ·intro w'
                 go_simp
                 with_reducible rfl
                rotate_left
                ·simp only [Act.put, List.setIfInBounds_toArray, List.set_cons_zero, List.set_cons_succ, i64_w, i32_w]
                 rfl
                refine pure_ (i := 25) (N := some 84) (v := ?_) (a' := ?_) #[true, true, true, true, true, true, true, true, true, true, true, true, true, true, true, true, true, true, true, true, true, true, true, true, true, true, false, false, false, false, false, false, false, false] rfl rfl (any_of HT_.out (by kernel_rfl)) (fun _ _ _ h => h) (Or.inl ⟨by rfl, ?_⟩) ?_ ?_
                rotate_left
                ·intro w'
                 go_simp
                 with_reducible rfl
                rotate_left
                ·simp only [Act.put, List.setIfInBounds_toArray, List.set_cons_zero, List.set_cons_succ, i64_w, i32_w]
                 rfl
                refine pure_ (i := 26) (N := some 85) (v := ?_) (a' := ?_) #[true, true, true, true, true, true, true, true, true, true, true, true, true, true, true, true, true, true, true, true, true, true, true, true, true, true, true, false, false, false, false, false, false, false] rfl rfl (any_of HT_.out (by kernel_rfl)) (fun _ _ _ h => h) (Or.inl ⟨by rfl, ?_⟩) ?_ ?_
                rotate_left
                ·intro w'
                 go_simp
                 with_reducible rfl
                rotate_left
                ·simp only [Act.put, List.setIfInBounds_toArray, List.set_cons_zero, List.set_cons_succ, i64_w, i32_w]
                 rfl
                refine pure_ (i := 27) (N := some 86) (v := ?_) (a' := ?_) #[true, true, true, true, true, true, true, true, true, true, true, true, true, true, true, true, true, true, true, true, true, true, true, true, true, true, true, true, false, false, false, false, false, false] rfl rfl (any_of HT_.out (by kernel_rfl)) (fun _ _ _ h => h) (Or.inl ⟨by rfl, ?_⟩) ?_ ?_
                rotate_left
                ·intro w'
                 go_simp
                 with_reducible rfl
                rotate_left
                ·simp only [Act.put, List.setIfInBounds_toArray, List.set_cons_zero, List.set_cons_succ, i64_w, i32_w]
                 rfl
                refine pure_ (i := 28) (N := some 87) (v := ?_) (a' := ?_) #[true, true, true, true, true, true, true, true, true, true, true, true, true, true, true, true, true, true, true, true, true, true, true, true, true, true, true, true, true, false, false, false, false, false] rfl rfl (any_of HT_.out (by kernel_rfl)) (fun _ _ _ h => h) (Or.inl ⟨by rfl, ?_⟩) ?_ ?_
                rotate_left
                ·intro w'
                 go_simp
                 with_reducible rfl
                rotate_left
                ·simp only [Act.put, List.setIfInBounds_toArray, List.set_cons_zero, List.set_cons_succ, i64_w, i32_w]
                 rfl
                refine pure_ (i := 29) (N := some 88) (v := ?_) (a' := ?_) #[true, true, true, true, true, true, true, true, true, true, true, true, true, true, true, true, true, true, true, true, true, true, true, true, true, true, true, true, true, true, false, false, false, false] rfl rfl (any_of HT_.out (by kernel_rfl)) (fun _ _ _ h => h) (Or.inl ⟨by rfl, ?_⟩) ?_ ?_
                rotate_left
                ·intro w'
                 go_simp
                 with_reducible rfl
                rotate_left
                ·simp only [Act.put, List.setIfInBounds_toArray, List.set_cons_zero, List.set_cons_succ, i64_w, i32_w]
                 rfl
                refine take_ (i := 30) (N := some 89) (v := ?_) (a' := ?_) #[true, true, true, true, true, true, true, true, true, true, true, true, true, true, true, true, true, true, true, true, true, true, true, true, true, true, true, true, true, true, true, false, false, false] rfl rfl (take_ofW HT_.out HW_.out (by kernel_rfl)) (fun _ _ _ h => h) (Or.inl ⟨by rfl, ?_⟩) hHeld ?_ ?_
                rotate_left
                ·rintro w' ⟨s0, s1, s2, s3, s4, s5, s6, s7, s8, s9, s10, s11, s12⟩
                 go_simp
                 with_reducible rfl
                rotate_left
                ·simp only [Act.put, List.setIfInBounds_toArray, List.set_cons_zero, List.set_cons_succ, i64_w, i32_w]
                 rfl
                refine pure_ (i := 31) (N := some 90) (v := ?_) (a' := ?_) #[true, true, true, true, true, true, true, true, true, true, true, true, true, true, true, true, true, true, true, true, true, true, true, true, true, true, true, true, true, true, true, true, false, false] rfl rfl (any_of HT_.out (by kernel_rfl)) (fun _ _ _ h => h) (Or.inl ⟨by rfl, ?_⟩) ?_ ?_
                rotate_left
                ·intro w'
                 go_simp
                 with_reducible rfl
                rotate_left
                ·simp only [Act.put, List.setIfInBounds_toArray, List.set_cons_zero, List.set_cons_succ, i64_w, i32_w]
                 rfl
                refine pure_ (i := 32) (N := some 91) (v := ?_) (a' := ?_) #[true, true, true, true, true, true, true, true, true, true, true, true, true, true, true, true, true, true, true, true, true, true, true, true, true, true, true, true, true, true, true, true, true, false] rfl rfl (any_of HT_.out (by kernel_rfl)) (fun _ _ _ h => h) (Or.inl ⟨by rfl, ?_⟩) ?_ ?_
                rotate_left
                ·intro w'
                 go_simp
                 with_reducible rfl
                rotate_left
                ·simp only [Act.put, List.setIfInBounds_toArray, List.set_cons_zero, List.set_cons_succ, i64_w, i32_w]
                 rfl
                refine pure_ (i := 33) (N := some 92) (v := ?_) (a' := ?_) #[true, true, true, true, true, true, true, true, true, true, true, true, true, true, true, true, true, true, true, true, true, true, true, true, true, true, true, true, true, true, true, true, true, true] rfl rfl (any_of HT_.out (by kernel_rfl)) (fun _ _ _ h => h) (Or.inl ⟨by rfl, ?_⟩) ?_ ?_
                rotate_left
                ·intro w'
                 go_simp
                 with_reducible rfl
                rotate_left
                ·simp only [Act.put, List.setIfInBounds_toArray, List.set_cons_zero, List.set_cons_succ, i64_w, i32_w]
                 rfl
                refine done_ (done_of HT_.out (by kernel_rfl)) ?_
                try go_wp2
                go_roundg kj17
                case measure => have := HK1.out; have := HJ17.out; omega
                case rel => exact ⟨(wrap64 (x28_1 + 1)), (by first | rfl | (simp; done) | (simp [*]; done)), H', ⟨by have := HK1.out; have := HJ17.out; omega⟩, ⟨by (with_reducible repeat (first | apply Kd.R_alloc | apply Kd.R_drewN | apply Kd.R_drew)); exact Kd.R_mono HO_3.out (fun _ hk => trivial)⟩, ⟨by (with_reducible repeat (first | apply Kd.R_alloc | apply Kd.R_drewN | apply Kd.R_drew)); exact Kd.R_mono HO_26.out (fun _ hk => trivial)⟩, ⟨by (with_reducible repeat (first | refine blk_drewN ?_ _ | refine blk_drew ?_ | refine blk_alloc ?_ _)); exact BK107.out⟩, ⟨by repeat (first | (with_reducible first | exact HB.out | apply below_alloc | apply pw_below_drewN | apply below_drew1 | refine below_set ?_ GE107.out | refine below_set ?_ GE132.out) | exact HB.out)⟩⟩
               ·rw [if_neg c42] at H
                have c42b0 : (t148 == 0) = false := beq_eq_false_iff_ne.mpr c42; have c42b1 : (t148 != 0) = true := bne_iff_ne.mpr c42
                exact absurd ((Option.some.inj H).trans HT.out) (by decide)
              ·rw [if_neg c41] at H
               have c41b0 : ((rd y110 x28_1) == 0) = false := beq_eq_false_iff_ne.mpr c41; have c41b1 : ((rd y110 x28_1) != 0) = true := bne_iff_ne.mpr c41
               have H' := Aside0.mk H
               clear H
               try go_wp2
               have n0_ := Aside0.mk (Kd.R_drew HO_3.out); have n1_ := Aside0.mk (Kd.R_drew HO_26.out); have n2_ := Aside0.mk (Kd.R_drew HO_133000.out); have n3_ := Aside0.mk (Kd.R_drew HO_133004.out); have n4_ := Aside0.mk (Kd.R_drew HO_133010.out); have n5_ := Aside0.mk (blk_drew BK107.out); have n6_ := Aside0.mk (blk_drew BK132.out); have n7_ := Aside0.mk (below_drew1 HB.out); clear HO_3; clear HO_26; clear HO_133000; clear HO_133004; clear HO_133010; clear BK107; clear BK132; clear HB; have HO_3 := n0_; have HO_26 := n1_; have HO_133000 := n2_; have HO_133004 := n3_; have HO_133010 := n4_; have BK107 := n5_; have BK132 := n6_; have HB := n7_; clear n0_ n1_ n2_ n3_ n4_ n5_ n6_ n7_
               refine start_ (n := 9) (S := fun w' => w'.cell? ⟨gb132, 0, none⟩ = some (.slice Ao22 t114.length co22) ∧ w'.cell? ⟨gb132, 1, none⟩ = some (.int .i64 t117) ∧ w'.cell? ⟨gb132, 2, none⟩ = some (.string t118) ∧ w'.cell? ⟨gb132, 3, none⟩ = some (.int .i64 t119) ∧ w'.cell? ⟨gb132, 4, none⟩ = some (.slice Ao25 t120.length co25) ∧ w'.cell? ⟨gb132, 5, none⟩ = some (.int .i64 t123) ∧ w'.cell? ⟨gb132, 6, none⟩ = some (.bool t124) ∧ w'.cell? ⟨gb132, 7, none⟩ = some (.int .i64 t125) ∧ w'.cell? ⟨gb132, 8, none⟩ = some (.int .i64 t126) ∧ w'.cell? ⟨gb132, 9, none⟩ = some (.int .i64 t127) ∧ w'.cell? ⟨gb132, 10, none⟩ = some (.slice Ao26 t128.length co26) ∧ w'.cell? ⟨gb107, 0, none⟩ = some (.int .i64 t105) ∧ w'.cell? ⟨gb107, 1, none⟩ = some (.string t106)) (ds := [8]) #[false, false, false, false, false, false, false, false, false] (by kernel_rfl) rfl rfl ⟨(blk_cell BK132.out 0).trans rfl, (blk_cell BK132.out 1).trans rfl, (blk_cell BK132.out 2).trans rfl, (blk_cell BK132.out 3).trans rfl, (blk_cell BK132.out 4).trans rfl, (blk_cell BK132.out 5).trans rfl, (blk_cell BK132.out 6).trans rfl, (blk_cell BK132.out 7).trans rfl, (blk_cell BK132.out 8).trans rfl, (blk_cell BK132.out 9).trans rfl, (blk_cell BK132.out 10).trans rfl, (blk_cell BK107.out 0).trans rfl, (blk_cell BK107.out 1).trans rfl⟩ (fun hHeld => ?_); refine with_tabW laws_FnMachine.tab11 laws_FnMachine.bits11 (fun HT_ HW_ => ?_)
               generalize wc.drew = w63 at HO_3 HO_26 HO_133000 HO_133004 HO_133010 BK107 BK132 HB hHeld ⊢
               refine pure_ (i := 1) (N := some 47) (v := ?_) (a' := ?_) #[false, true, false, false, false, false, false, false, false] rfl rfl (any_of HT_.out (by kernel_rfl)) (fun _ _ _ h => h) (Or.inl ⟨by rfl, ?_⟩) ?_ ?_
               rotate_left
               ·intro w'
                go_simp
                with_reducible rfl
               rotate_left
               ·simp only [Act.put, List.setIfInBounds_toArray, List.set_cons_zero, List.set_cons_succ, i64_w, i32_w]
                rfl
               refine take_ (i := 0) (N := some 46) (v := ?_) (a' := ?_) #[true, true, false, false, false, false, false, false, false] rfl rfl (take_ofW HT_.out HW_.out (by kernel_rfl)) (fun _ _ _ h => h) (Or.inl ⟨by rfl, ?_⟩) hHeld ?_ ?_
               rotate_left
               ·rintro w' ⟨s0, s1, s2, s3, s4, s5, s6, s7, s8, s9, s10, s11, s12⟩
                go_simp
                with_reducible rfl
               rotate_left
               ·simp only [Act.put, List.setIfInBounds_toArray, List.set_cons_zero, List.set_cons_succ, i64_w, i32_w]
                rfl
               refine take_ (i := 2) (N := some 48) (v := ?_) (a' := ?_) #[true, true, true, false, false, false, false, false, false] rfl rfl (take_ofW HT_.out HW_.out (by kernel_rfl)) (fun _ _ _ h => h) (Or.inl ⟨by rfl, ?_⟩) hHeld ?_ ?_
               rotate_left
               ·rintro w' ⟨s0, s1, s2, s3, s4, s5, s6, s7, s8, s9, s10, s11, s12⟩
                go_simp
                with_reducible rfl
               rotate_left
               ·simp only [Act.put, List.setIfInBounds_toArray, List.set_cons_zero, List.set_cons_succ, i64_w, i32_w]
                rfl
               refine pure_ (i := 3) (N := some 49) (v := ?_) (a' := ?_) #[true, true, true, true, false, false, false, false, false] rfl rfl (any_of HT_.out (by kernel_rfl)) (fun _ _ _ h => h) (Or.inl ⟨by rfl, ?_⟩) ?_ ?_
               rotate_left
               ·intro w'
                go_simp
                with_reducible rfl
               rotate_left
               ·simp only [Act.put, List.setIfInBounds_toArray, List.set_cons_zero, List.set_cons_succ, i64_w, i32_w]
                rfl
               refine one_ (i := 4) (N := some 50) #[true, true, true, true, true, false, false, false, false] rfl rfl (one_of HT_.out (by kernel_rfl)) (by decide) (fun K hK => ?_)
               refine goes_ Try.func44 (by kernel_rfl) rfl #[.int .i64 (wrap64 (t105 + 1))] (by rfl) rfl rfl (by (try simp only [List.map_toArray, List.map_cons, List.map_nil]); first | done | rfl | (simp only [List.length_drop, List.length_take]; rfl)) ?_
               with_reducible refine (laws_pow.calls kj17 (wrap64 (t105 + 1)) t134 _ A33.out).mono ?_
               rintro e w' ⟨rfl, ⟨nd, rfl⟩⟩
               refine ⟨_, rfl, ?_⟩
               refine hK.out _ _ ⟨(blk_cell BK132.out 0).trans rfl, (blk_cell BK132.out 1).trans rfl, (blk_cell BK132.out 2).trans rfl, (blk_cell BK132.out 3).trans rfl, (blk_cell BK132.out 4).trans rfl, (blk_cell BK132.out 5).trans rfl, (blk_cell BK132.out 6).trans rfl, (blk_cell BK132.out 7).trans rfl, (blk_cell BK132.out 8).trans rfl, (blk_cell BK132.out 9).trans rfl, (blk_cell BK132.out 10).trans rfl, (blk_cell BK107.out 0).trans rfl, (blk_cell BK107.out 1).trans rfl⟩ (fun hHeld => ?_)
               clear hK K
               refine norm_ (a' := ?_) ?_ ?_
               rotate_left
               ·show Act.put _ (some 50) _ = _
                simp only [Act.put, List.setIfInBounds_toArray, List.set_cons_zero, List.set_cons_succ, i64_w, i32_w]
                rfl
               refine pure_ (i := 5) (N := some 51) (v := ?_) (a' := ?_) #[true, true, true, true, true, true, false, false, false] rfl rfl (any_of HT_.out (by kernel_rfl)) (fun _ _ _ h => h) (Or.inl ⟨by rfl, ?_⟩) ?_ ?_
               rotate_left
               ·intro w'
                go_simp
                with_reducible rfl
               rotate_left
               ·simp only [Act.put, List.setIfInBounds_toArray, List.set_cons_zero, List.set_cons_succ, i64_w, i32_w]
                rfl
               refine pure_ (i := 6) (N := some 52) (v := ?_) (a' := ?_) #[true, true, true, true, true, true, true, false, false] rfl rfl (any_of HT_.out (by kernel_rfl)) (fun _ _ _ h => h) (Or.inl ⟨by rfl, ?_⟩) ?_ ?_
               rotate_left
               ·intro w'
                go_simp
                with_reducible rfl
               rotate_left
               ·simp only [Act.put, List.setIfInBounds_toArray, List.set_cons_zero, List.set_cons_succ, i64_w, i32_w]
                rfl
               refine one_ (i := 7) (N := some 53) #[true, true, true, true, true, true, true, true, false] rfl rfl (one_of HT_.out (by kernel_rfl)) (by decide) (fun K hK => ?_)
               refine goes_ Try.func41 (by kernel_rfl) rfl #[.agg #[.slice Ao22 t114.length co22, .int .i64 t117, .string t118, .int .i64 t119, .slice Ao25 t120.length co25, .int .i64 t123, .bool t124, .int .i64 t125, .int .i64 t126, .int .i64 t127, .slice Ao26 t128.length co26], .int .i64 (wrap64 ((wrap64 (3 * t134)) + 2))] (by rfl) rfl rfl (by (try simp only [List.map_toArray, List.map_cons, List.map_nil]); first | done | rfl | (simp only [List.length_drop, List.length_take]; rfl)) ?_
               with_reducible refine (impl_MachineRun.calls kj17 _ _ t114 t117 t118 t119 _ _ t120 t123 t124 t125 t126 t127 _ _ t128 (wrap64 ((wrap64 (3 * t134)) + 2)) t135 t138 t139 t140 t141 t144 t145 t146 t147 t148 t149 _ ?side1 ?side2 ?side3 ?side4 ?side5 ?side6 A34.out).mono ?_
               (case side1 => repeat (first | exact (Kd.R_reads' HO_133000.out).2.2 | (with_reducible refine Kd.C_alloc ?_ _) | (with_reducible refine Kd.C_drewN ?_ _) | (with_reducible refine Kd.C_drew ?_)))
               (case side2 => exact (Kd.R_reads' HO_133000.out).2.1)
               (case side3 => repeat (first | exact (Kd.R_reads' HO_133004.out).2.2 | (with_reducible refine Kd.C_alloc ?_ _) | (with_reducible refine Kd.C_drewN ?_ _) | (with_reducible refine Kd.C_drew ?_)))
               (case side4 => exact (Kd.R_reads' HO_133004.out).2.1)
               (case side5 => repeat (first | exact (Kd.R_reads' HO_133010.out).2.2 | (with_reducible refine Kd.C_alloc ?_ _) | (with_reducible refine Kd.C_drewN ?_ _) | (with_reducible refine Kd.C_drew ?_)))
               (case side6 => exact (Kd.R_reads' HO_133010.out).2.1)
               rintro e w64 ⟨v136, v142, v150, rfl, ho0, ho1, ho2, hb⟩
               refine ⟨_, rfl, ?_⟩
               have n0_ := re HO_3 (Kd.R_base ho0) hb; have n1_ := re HO_26 (Kd.R_base ho1) hb; have n2_ := re HO_133000 (Kd.R_base ho0) hb; have n3_ := re HO_133004 (Kd.R_base ho1) hb; have n4_ := re HO_133010 (Kd.R_base ho2) hb
               have n5_ := Aside0.mk (Kd.R_lower (Kd.R_new' (Kd.R_new' ho0 (Kd.R_lt (by (with_reducible repeat (first | apply Kd.R_alloc | apply Kd.R_drewN | apply Kd.R_drew)); exact HO_3.out))) (Kd.R_lt (by (with_reducible repeat (first | apply Kd.R_alloc | apply Kd.R_drewN | apply Kd.R_drew)); exact HO_133000.out))) (below_size (by repeat (first | (with_reducible first | exact HB.out | apply below_alloc | apply pw_below_drewN | apply below_drew1 | refine below_set ?_ GE107.out | refine below_set ?_ GE132.out) | exact HB.out))))
               have n6_ := Aside0.mk (Kd.R_lower (Kd.R_new' (Kd.R_new' ho1 (Kd.R_lt (by (with_reducible repeat (first | apply Kd.R_alloc | apply Kd.R_drewN | apply Kd.R_drew)); exact HO_26.out))) (Kd.R_lt (by (with_reducible repeat (first | apply Kd.R_alloc | apply Kd.R_drewN | apply Kd.R_drew)); exact HO_133004.out))) (below_size (by repeat (first | (with_reducible first | exact HB.out | apply below_alloc | apply pw_below_drewN | apply below_drew1 | refine below_set ?_ GE107.out | refine below_set ?_ GE132.out) | exact HB.out))))
               have n7_ := Aside0.mk (Kd.R_lower (Kd.R_new' ho2 (Kd.R_lt (by (with_reducible repeat (first | apply Kd.R_alloc | apply Kd.R_drewN | apply Kd.R_drew)); exact HO_133010.out))) (below_size (by repeat (first | (with_reducible first | exact HB.out | apply below_alloc | apply pw_below_drewN | apply below_drew1 | refine below_set ?_ GE107.out | refine below_set ?_ GE132.out) | exact HB.out))))
               have n8_ := bb BK107 hb; have n9_ := bb BK132 hb; have n10_ := bs2 HB hb GE107 GE132; clear HO_3; clear HO_26; clear HO_133000; clear HO_133004; clear HO_133010; clear BK107; clear BK132; clear HB; have HO_3 := n0_; have HO_26 := n1_; have HO_133000 := n2_; have HO_133004 := n3_; have HO_133010 := n4_; have HO137 := n5_; have HO143 := n6_; have HO151 := n7_; have BK107 := n8_; have BK132 := n9_; have HB := n10_; clear n0_ n1_ n2_ n3_ n4_ n5_ n6_ n7_ n8_ n9_ n10_
               (try clear hb)
               (try clear hb2)
               (try clear hk)
               (try clear hi)
               (try clear ho0)
               (try clear ho1)
               (try clear ho2)
               obtain ⟨Ao65, co65, eo65⟩ := Kd.R_slice HO137.out
               (first | subst eo65 | (injection eo65 with f1_ f2_ f3_; have f4_ := f1_.symm; have f5_ := f3_.symm; clear f1_ f2_ f3_; subst f4_; subst f5_))
               obtain ⟨Ao70, co70, eo70⟩ := Kd.R_slice HO143.out
               (first | subst eo70 | (injection eo70 with f1_ f2_ f3_; have f4_ := f1_.symm; have f5_ := f3_.symm; clear f1_ f2_ f3_; subst f4_; subst f5_))
               obtain ⟨Ao77, co77, eo77⟩ := Kd.R_slice HO151.out
               (first | subst eo77 | (injection eo77 with f1_ f2_ f3_; have f4_ := f1_.symm; have f5_ := f3_.symm; clear f1_ f2_ f3_; subst f4_; subst f5_))
               refine hK.out _ _ ⟨(blk_cell BK132.out 0).trans rfl, (blk_cell BK132.out 1).trans rfl, (blk_cell BK132.out 2).trans rfl, (blk_cell BK132.out 3).trans rfl, (blk_cell BK132.out 4).trans rfl, (blk_cell BK132.out 5).trans rfl, (blk_cell BK132.out 6).trans rfl, (blk_cell BK132.out 7).trans rfl, (blk_cell BK132.out 8).trans rfl, (blk_cell BK132.out 9).trans rfl, (blk_cell BK132.out 10).trans rfl, (blk_cell BK107.out 0).trans rfl, (blk_cell BK107.out 1).trans rfl⟩ (fun hHeld => ?_)
               clear hK K
               refine norm_ (a' := ?_) ?_ ?_
               rotate_left
               ·show Act.put _ (some 53) _ = _
                simp only [Act.put, List.setIfInBounds_toArray, List.set_cons_zero, List.set_cons_succ, i64_w, i32_w]
                rfl
               refine last_ (i := 8) (N := none) #[true, true, true, true, true, true, true, true, true] rfl rfl (one_of HT_.out (by kernel_rfl)) (by decide) (fun K hK => ?_)
               have hs66 : w64.cell? ⟨gb132, 0, none⟩ = some (.slice Ao22 t114.length co22) := (blk_cell BK132.out 0).trans rfl; have hfs66 := blk_frozen BK132.out 0; have hns66_0 := NB107_132.out; have hms66_0 := NB132_107.out; have hs67 : w64.cell? ⟨gb132, 1, none⟩ = some (.int .i64 t117) := (blk_cell BK132.out 1).trans rfl; have hfs67 := blk_frozen BK132.out 1; have hns67_0 := NB107_132.out; have hms67_0 := NB132_107.out; have hs68 : w64.cell? ⟨gb132, 2, none⟩ = some (.string t118) := (blk_cell BK132.out 2).trans rfl; have hfs68 := blk_frozen BK132.out 2; have hns68_0 := NB107_132.out; have hms68_0 := NB132_107.out; have hs69 : w64.cell? ⟨gb132, 3, none⟩ = some (.int .i64 t119) := (blk_cell BK132.out 3).trans rfl; have hfs69 := blk_frozen BK132.out 3; have hns69_0 := NB107_132.out; have hms69_0 := NB132_107.out; have hs71 : w64.cell? ⟨gb132, 4, none⟩ = some (.slice Ao25 t120.length co25) := (blk_cell BK132.out 4).trans rfl; have hfs71 := blk_frozen BK132.out 4; have hns71_0 := NB107_132.out; have hms71_0 := NB132_107.out; have hs72 : w64.cell? ⟨gb132, 5, none⟩ = some (.int .i64 t123) := (blk_cell BK132.out 5).trans rfl; have hfs72 := blk_frozen BK132.out 5; have hns72_0 := NB107_132.out; have hms72_0 := NB132_107.out; have hs73 : w64.cell? ⟨gb132, 6, none⟩ = some (.bool t124) := (blk_cell BK132.out 6).trans rfl; have hfs73 := blk_frozen BK132.out 6; have hns73_0 := NB107_132.out; have hms73_0 := NB132_107.out; have hs74 : w64.cell? ⟨gb132, 7, none⟩ = some (.int .i64 t125) := (blk_cell BK132.out 7).trans rfl; have hfs74 := blk_frozen BK132.out 7; have hns74_0 := NB107_132.out; have hms74_0 := NB132_107.out; have hs75 : w64.cell? ⟨gb132, 8, none⟩ = some (.int .i64 t126) := (blk_cell BK132.out 8).trans rfl; have hfs75 := blk_frozen BK132.out 8; have hns75_0 := NB107_132.out; have hms75_0 := NB132_107.out; have hs76 : w64.cell? ⟨gb132, 9, none⟩ = some (.int .i64 t127) := (blk_cell BK132.out 9).trans rfl; have hfs76 := blk_frozen BK132.out 9; have hns76_0 := NB107_132.out; have hms76_0 := NB132_107.out; have hs78 : w64.cell? ⟨gb132, 10, none⟩ = some (.slice Ao26 t128.length co26) := (blk_cell BK132.out 10).trans rfl; have hfs78 := blk_frozen BK132.out 10; have hns78_0 := NB107_132.out; have hms78_0 := NB132_107.out
               refine skip_ (w1 := ?_) (by rfl) rfl ?_ ?_
               rotate_left
               ·go_simp
                rfl
               refine hK.out _ _ ?_
               clear hK K
               refine done_ (done_of HT_.out (by kernel_rfl)) ?_
               have hnb79 := NB132_107.out; have hnc79 := NB107_132.out; have hcz80_0 : w64.cell? ⟨gb132, 0, none⟩ = some (.slice Ao22 t114.length co22) := (blk_cell BK132.out 0).trans rfl; have hcz80_1 : w64.cell? ⟨gb132, 1, none⟩ = some (.int .i64 t117) := (blk_cell BK132.out 1).trans rfl; have hcz80_2 : w64.cell? ⟨gb132, 2, none⟩ = some (.string t118) := (blk_cell BK132.out 2).trans rfl; have hcz80_3 : w64.cell? ⟨gb132, 3, none⟩ = some (.int .i64 t119) := (blk_cell BK132.out 3).trans rfl; have hcz80_4 : w64.cell? ⟨gb132, 4, none⟩ = some (.slice Ao25 t120.length co25) := (blk_cell BK132.out 4).trans rfl; have hcz80_5 : w64.cell? ⟨gb132, 5, none⟩ = some (.int .i64 t123) := (blk_cell BK132.out 5).trans rfl; have hcz80_6 : w64.cell? ⟨gb132, 6, none⟩ = some (.bool t124) := (blk_cell BK132.out 6).trans rfl; have hcz80_7 : w64.cell? ⟨gb132, 7, none⟩ = some (.int .i64 t125) := (blk_cell BK132.out 7).trans rfl; have hcz80_8 : w64.cell? ⟨gb132, 8, none⟩ = some (.int .i64 t126) := (blk_cell BK132.out 8).trans rfl; have hcz80_9 : w64.cell? ⟨gb132, 9, none⟩ = some (.int .i64 t127) := (blk_cell BK132.out 9).trans rfl; have hcz80_10 : w64.cell? ⟨gb132, 10, none⟩ = some (.slice Ao26 t128.length co26) := (blk_cell BK132.out 10).trans rfl; have hfz80_0 := blk_frozen BK132.out 0; have hfz80_1 := blk_frozen BK132.out 1; have hfz80_2 := blk_frozen BK132.out 2; have hfz80_3 := blk_frozen BK132.out 3; have hfz80_4 := blk_frozen BK132.out 4; have hfz80_5 := blk_frozen BK132.out 5; have hfz80_6 := blk_frozen BK132.out 6; have hfz80_7 := blk_frozen BK132.out 7; have hfz80_8 := blk_frozen BK132.out 8; have hfz80_9 := blk_frozen BK132.out 9; have hfz80_10 := blk_frozen BK132.out 10
               try go_wp2_with (first | ((with_reducible refine gate_callee (f := 34) rfl ?_); refine goesL_ (some 56) rfl rfl Try.func34 (by kernel_rfl) rfl #[.agg #[.slice Ao65 t135.length co65, .int .i64 t138, .string t139, .int .i64 t140, .slice Ao70 t141.length co70, .int .i64 t144, .bool t145, .int .i64 t146, .int .i64 t147, .int .i64 t148, .slice Ao77 t149.length co77]] rfl (by (try simp only [List.map_toArray, List.map_cons, List.map_nil]); first | done | rfl | (simp only [List.length_drop, List.length_take]; rfl)) ?_; (with_reducible refine (impl_MachineVerdict.calls kj17 _ _ t135 t138 t139 t140 _ _ t141 t144 t145 t146 t147 t148 _ _ t149 t152 true _ ?side1 ?side2 ?side3 ?side4 ?side5 ?side6 A35.out).mono ?_); (case side1 => refine (Kd.R_reads' (e := 4) (base := w.heap.size) (ok := fun k_ => ((True ∧ some k_ ≠ (.slice Ao9 t102.length co9 : Value).ownBlock) ∧ some k_ ≠ (.slice Ao22 t114.length co22 : Value).ownBlock)) (n := t135.length) (c := co65) ?_).2.2; exact (by (with_reducible repeat (first | apply Kd.R_alloc | apply Kd.R_drewN | apply Kd.R_drew)); exact (rf HO137 BK132))); (case side2 => exact (Kd.R_reads' HO137.out).2.1); (case side3 => refine (Kd.R_reads' (e := 3) (base := w.heap.size) (ok := fun k_ => ((True ∧ some k_ ≠ (.slice (some ad113) y110.length co13 : Value).ownBlock) ∧ some k_ ≠ (.slice Ao25 t120.length co25 : Value).ownBlock)) (n := t141.length) (c := co70) ?_).2.2; exact (by (with_reducible repeat (first | apply Kd.R_alloc | apply Kd.R_drewN | apply Kd.R_drew)); exact (rf HO143 BK132))); (case side4 => exact (Kd.R_reads' HO143.out).2.1); (case side5 => refine (Kd.R_reads' (e := 86) (base := w.heap.size) (ok := fun k_ => (True ∧ some k_ ≠ (.slice Ao26 t128.length co26 : Value).ownBlock)) (n := t149.length) (c := co77) ?_).2.2; exact (by (with_reducible repeat (first | apply Kd.R_alloc | apply Kd.R_drewN | apply Kd.R_drew)); exact (rf HO151 BK132))); (case side6 => exact (Kd.R_reads' HO151.out).2.1); rintro e w81 ⟨rfl, hb⟩; refine ⟨_, rfl, ?_⟩; have n0_ := rbf HO_3 BK132 hb; have n1_ := rbf HO_26 BK132 hb; have n2_ := rbf HO_133000 BK132 hb; have n3_ := rbf HO_133004 BK132 hb; have n4_ := rbf HO_133010 BK132 hb; have n5_ := rbf HO137 BK132 hb; have n6_ := rbf HO143 BK132 hb; have n7_ := rbf HO151 BK132 hb; have n8_ := Aside0.mk (blk_below (dq BK107 NB107_132) hb); have n9_ := Aside0.mk (blk_below (g := gb132) (o := .cells #[.slice Ao65 t135.length co65, .int .i64 t138, .string t139, .int .i64 t140, .slice Ao70 t141.length co70, .int .i64 t144, .bool t145, .int .i64 t146, .int .i64 t147, .int .i64 t148, .slice Ao77 t149.length co77] 36 (0, 0)) (by (with_reducible repeat (first | refine blk_drewN ?_ _ | refine blk_drew ?_ | refine blk_alloc ?_ _)); exact bp11 BK132.out) hb); have n10_ := bs2 HB hb GE107 GE132; clear HO_3; clear HO_26; clear HO_133000; clear HO_133004; clear HO_133010; clear HO137; clear HO143; clear HO151; clear BK107; clear BK132; clear HB; have HO_3 := n0_; have HO_26 := n1_; have HO_133000 := n2_; have HO_133004 := n3_; have HO_133010 := n4_; have HO137 := n5_; have HO143 := n6_; have HO151 := n7_; have BK107 := n8_; have BK132 := n9_; have HB := n10_; clear n0_ n1_ n2_ n3_ n4_ n5_ n6_ n7_ n8_ n9_ n10_; (try clear hb); (try clear hb2); (try clear hk); (try clear hi)))
               have n0_ := Aside0.mk (Kd.R_drew HO_3.out); have n1_ := Aside0.mk (Kd.R_drew HO_26.out); have n2_ := Aside0.mk (Kd.R_drew HO_133000.out); have n3_ := Aside0.mk (Kd.R_drew HO_133004.out); have n4_ := Aside0.mk (Kd.R_drew HO_133010.out); have n5_ := Aside0.mk (Kd.R_drew HO137.out); have n6_ := Aside0.mk (Kd.R_drew HO143.out); have n7_ := Aside0.mk (Kd.R_drew HO151.out); have n8_ := Aside0.mk (blk_drew BK107.out); have n9_ := Aside0.mk (blk_drew BK132.out); have n10_ := Aside0.mk (below_drew1 HB.out); clear HO_3; clear HO_26; clear HO_133000; clear HO_133004; clear HO_133010; clear HO137; clear HO143; clear HO151; clear BK107; clear BK132; clear HB; have HO_3 := n0_; have HO_26 := n1_; have HO_133000 := n2_; have HO_133004 := n3_; have HO_133010 := n4_; have HO137 := n5_; have HO143 := n6_; have HO151 := n7_; have BK107 := n8_; have BK132 := n9_; have HB := n10_; clear n0_ n1_ n2_ n3_ n4_ n5_ n6_ n7_ n8_ n9_ n10_
               refine start_ (n := 34) (S := fun w' => w'.cell? ⟨gb132, 0, none⟩ = some (.slice Ao65 t135.length co65) ∧ w'.cell? ⟨gb132, 1, none⟩ = some (.int .i64 t138) ∧ w'.cell? ⟨gb132, 2, none⟩ = some (.string t139) ∧ w'.cell? ⟨gb132, 3, none⟩ = some (.int .i64 t140) ∧ w'.cell? ⟨gb132, 4, none⟩ = some (.slice Ao70 t141.length co70) ∧ w'.cell? ⟨gb132, 5, none⟩ = some (.int .i64 t144) ∧ w'.cell? ⟨gb132, 6, none⟩ = some (.bool t145) ∧ w'.cell? ⟨gb132, 7, none⟩ = some (.int .i64 t146) ∧ w'.cell? ⟨gb132, 8, none⟩ = some (.int .i64 t147) ∧ w'.cell? ⟨gb132, 9, none⟩ = some (.int .i64 t148) ∧ w'.cell? ⟨gb132, 10, none⟩ = some (.slice Ao77 t149.length co77) ∧ w'.cell? ⟨gb107, 0, none⟩ = some (.int .i64 t105) ∧ w'.cell? ⟨gb107, 1, none⟩ = some (.string t106)) (ds := []) #[false, false, false, false, false, false, false, false, false, false, false, false, false, false, false, false, false, false, false, false, false, false, false, false, false, false, false, false, false, false, false, false, false, false] (by kernel_rfl) rfl rfl ⟨(blk_cell BK132.out 0).trans rfl, (blk_cell BK132.out 1).trans rfl, (blk_cell BK132.out 2).trans rfl, (blk_cell BK132.out 3).trans rfl, (blk_cell BK132.out 4).trans rfl, (blk_cell BK132.out 5).trans rfl, (blk_cell BK132.out 6).trans rfl, (blk_cell BK132.out 7).trans rfl, (blk_cell BK132.out 8).trans rfl, (blk_cell BK132.out 9).trans rfl, (blk_cell BK132.out 10).trans rfl, (blk_cell BK107.out 0).trans rfl, (blk_cell BK107.out 1).trans rfl⟩ (fun hHeld => ?_); refine with_tabW laws_FnMachine.tab13 laws_FnMachine.bits13 (fun HT_ HW_ => ?_)
               generalize w81.drew = w82 at HO_3 HO_26 HO_133000 HO_133004 HO_133010 HO137 HO143 HO151 BK107 BK132 HB hHeld ⊢
               refine pure_ (i := 0) (N := some 59) (v := ?_) (a' := ?_) #[true, false, false, false, false, false, false, false, false, false, false, false, false, false, false, false, false, false, false, false, false, false, false, false, false, false, false, false, false, false, false, false, false, false] rfl rfl (any_of HT_.out (by kernel_rfl)) (fun _ _ _ h => h) (Or.inl ⟨by rfl, ?_⟩) ?_ ?_
               rotate_left
               ·intro w'
                go_simp
                with_reducible rfl
               rotate_left
               ·simp only [Act.put, List.setIfInBounds_toArray, List.set_cons_zero, List.set_cons_succ, i64_w, i32_w]
                rfl
               refine pure_ (i := 1) (N := some 60) (v := ?_) (a' := ?_) #[true, true, false, false, false, false, false, false, false, false, false, false, false, false, false, false, false, false, false, false, false, false, false, false, false, false, false, false, false, false, false, false, false, false] rfl rfl (any_of HT_.out (by kernel_rfl)) (fun _ _ _ h => h) (Or.inl ⟨by rfl, ?_⟩) ?_ ?_
               rotate_left
               ·intro w'
                go_simp
                with_reducible rfl
               rotate_left
               ·simp only [Act.put, List.setIfInBounds_toArray, List.set_cons_zero, List.set_cons_succ, i64_w, i32_w]
                rfl
               refine pure_ (i := 2) (N := some 61) (v := ?_) (a' := ?_) #[true, true, true, false, false, false, false, false, false, false, false, false, false, false, false, false, false, false, false, false, false, false, false, false, false, false, false, false, false, false, false, false, false, false] rfl rfl (any_of HT_.out (by kernel_rfl)) (fun _ _ _ h => h) (Or.inl ⟨by rfl, ?_⟩) ?_ ?_
               rotate_left
               ·intro w'
                go_simp
                with_reducible rfl
               rotate_left
               ·simp only [Act.put, List.setIfInBounds_toArray, List.set_cons_zero, List.set_cons_succ, i64_w, i32_w]
                rfl
               refine pure_ (i := 3) (N := some 62) (v := ?_) (a' := ?_) #[true, true, true, true, false, false, false, false, false, false, false, false, false, false, false, false, false, false, false, false, false, false, false, false, false, false, false, false, false, false, false, false, false, false] rfl rfl (any_of HT_.out (by kernel_rfl)) (fun _ _ _ h => h) (Or.inl ⟨by rfl, ?_⟩) ?_ ?_
               rotate_left
               ·intro w'
                go_simp
                with_reducible rfl
               rotate_left
               ·simp only [Act.put, List.setIfInBounds_toArray, List.set_cons_zero, List.set_cons_succ, i64_w, i32_w]
                rfl
               refine pure_ (i := 4) (N := some 63) (v := ?_) (a' := ?_) #[true, true, true, true, true, false, false, false, false, false, false, false, false, false, false, false, false, false, false, false, false, false, false, false, false, false, false, false, false, false, false, false, false, false] rfl rfl (any_of HT_.out (by kernel_rfl)) (fun _ _ _ h => h) (Or.inl ⟨by rfl, ?_⟩) ?_ ?_
               rotate_left
               ·intro w'
                go_simp
                with_reducible rfl
               rotate_left
               ·simp only [Act.put, List.setIfInBounds_toArray, List.set_cons_zero, List.set_cons_succ, i64_w, i32_w]
                rfl
               refine pure_ (i := 5) (N := some 64) (v := ?_) (a' := ?_) #[true, true, true, true, true, true, false, false, false, false, false, false, false, false, false, false, false, false, false, false, false, false, false, false, false, false, false, false, false, false, false, false, false, false] rfl rfl (any_of HT_.out (by kernel_rfl)) (fun _ _ _ h => h) (Or.inl ⟨by rfl, ?_⟩) ?_ ?_
               rotate_left
               ·intro w'
                go_simp
                with_reducible rfl
               rotate_left
               ·simp only [Act.put, List.setIfInBounds_toArray, List.set_cons_zero, List.set_cons_succ, i64_w, i32_w]
                rfl
               refine pure_ (i := 6) (N := some 65) (v := ?_) (a' := ?_) #[true, true, true, true, true, true, true, false, false, false, false, false, false, false, false, false, false, false, false, false, false, false, false, false, false, false, false, false, false, false, false, false, false, false] rfl rfl (any_of HT_.out (by kernel_rfl)) (fun _ _ _ h => h) (Or.inl ⟨by rfl, ?_⟩) ?_ ?_
               rotate_left
               ·intro w'
                go_simp
                with_reducible rfl
               rotate_left
               ·simp only [Act.put, List.setIfInBounds_toArray, List.set_cons_zero, List.set_cons_succ, i64_w, i32_w]
                rfl
               refine pure_ (i := 7) (N := some 66) (v := ?_) (a' := ?_) #[true, true, true, true, true, true, true, true, false, false, false, false, false, false, false, false, false, false, false, false, false, false, false, false, false, false, false, false, false, false, false, false, false, false] rfl rfl (any_of HT_.out (by kernel_rfl)) (fun _ _ _ h => h) (Or.inl ⟨by rfl, ?_⟩) ?_ ?_
               rotate_left
               ·intro w'
                go_simp
                with_reducible rfl
               rotate_left
               ·simp only [Act.put, List.setIfInBounds_toArray, List.set_cons_zero, List.set_cons_succ, i64_w, i32_w]
                rfl
               refine pure_ (i := 8) (N := some 67) (v := ?_) (a' := ?_) #[true, true, true, true, true, true, true, true, true, false, false, false, false, false, false, false, false, false, false, false, false, false, false, false, false, false, false, false, false, false, false, false, false, false] rfl rfl (any_of HT_.out (by kernel_rfl)) (fun _ _ _ h => h) (Or.inl ⟨by rfl, ?_⟩) ?_ ?_
               rotate_left
               ·intro w'
                go_simp
                with_reducible rfl
               rotate_left
               ·simp only [Act.put, List.setIfInBounds_toArray, List.set_cons_zero, List.set_cons_succ, i64_w, i32_w]
                rfl
               refine pure_ (i := 11) (N := some 70) (v := ?_) (a' := ?_) #[true, true, true, true, true, true, true, true, true, false, false, true, false, false, false, false, false, false, false, false, false, false, false, false, false, false, false, false, false, false, false, false, false, false] rfl rfl (any_of HT_.out (by kernel_rfl)) (fun _ _ _ h => h) (Or.inl ⟨by rfl, ?_⟩) ?_ ?_
               rotate_left
               ·intro w'
                go_simp
                with_reducible rfl
               rotate_left
               ·simp only [Act.put, List.setIfInBounds_toArray, List.set_cons_zero, List.set_cons_succ, i64_w, i32_w]
                rfl
               refine take_ (i := 9) (N := some 68) (v := ?_) (a' := ?_) #[true, true, true, true, true, true, true, true, true, true, false, true, false, false, false, false, false, false, false, false, false, false, false, false, false, false, false, false, false, false, false, false, false, false] rfl rfl (take_ofW HT_.out HW_.out (by kernel_rfl)) (fun _ _ _ h => h) (Or.inl ⟨by rfl, ?_⟩) hHeld ?_ ?_
               rotate_left
               ·rintro w' ⟨s0, s1, s2, s3, s4, s5, s6, s7, s8, s9, s10, s11, s12⟩
                go_simp
                with_reducible rfl
               rotate_left
               ·simp only [Act.put, List.setIfInBounds_toArray, List.set_cons_zero, List.set_cons_succ, i64_w, i32_w]
                rfl
               refine pure_ (i := 10) (N := some 69) (v := ?_) (a' := ?_) #[true, true, true, true, true, true, true, true, true, true, true, true, false, false, false, false, false, false, false, false, false, false, false, false, false, false, false, false, false, false, false, false, false, false] rfl rfl (any_of HT_.out (by kernel_rfl)) (fun _ _ _ h => h) (Or.inl ⟨by rfl, ?_⟩) ?_ ?_
               rotate_left
               ·intro w'
                go_simp
                with_reducible rfl
               rotate_left
               ·simp only [Act.put, List.setIfInBounds_toArray, List.set_cons_zero, List.set_cons_succ, i64_w, i32_w]
                rfl
               refine pure_ (i := 12) (N := some 71) (v := ?_) (a' := ?_) #[true, true, true, true, true, true, true, true, true, true, true, true, true, false, false, false, false, false, false, false, false, false, false, false, false, false, false, false, false, false, false, false, false, false] rfl rfl (any_of HT_.out (by kernel_rfl)) (fun _ _ _ h => h) (Or.inl ⟨by rfl, ?_⟩) ?_ ?_
               rotate_left
               ·intro w'
                go_simp
                with_reducible rfl
               rotate_left
               ·simp only [Act.put, List.setIfInBounds_toArray, List.set_cons_zero, List.set_cons_succ, i64_w, i32_w]
                rfl
               refine pure_ (i := 13) (N := some 72) (v := ?_) (a' := ?_) #[true, true, true, true, true, true, true, true, true, true, true, true, true, true, false, false, false, false, false, false, false, false, false, false, false, false, false, false, false, false, false, false, false, false] rfl rfl (any_of HT_.out (by kernel_rfl)) (fun _ _ _ h => h) (Or.inl ⟨by rfl, ?_⟩) ?_ ?_
               rotate_left
               ·intro w'
                go_simp
                with_reducible rfl
               rotate_left
               ·simp only [Act.put, List.setIfInBounds_toArray, List.set_cons_zero, List.set_cons_succ, i64_w, i32_w]
                rfl
               refine pure_ (i := 14) (N := some 73) (v := ?_) (a' := ?_) #[true, true, true, true, true, true, true, true, true, true, true, true, true, true, true, false, false, false, false, false, false, false, false, false, false, false, false, false, false, false, false, false, false, false] rfl rfl (any_of HT_.out (by kernel_rfl)) (fun _ _ _ h => h) (Or.inl ⟨by rfl, ?_⟩) ?_ ?_
               rotate_left
               ·intro w'
                go_simp
                with_reducible rfl
               rotate_left
               ·simp only [Act.put, List.setIfInBounds_toArray, List.set_cons_zero, List.set_cons_succ, i64_w, i32_w]
                rfl
               refine pure_ (i := 15) (N := some 74) (v := ?_) (a' := ?_) #[true, true, true, true, true, true, true, true, true, true, true, true, true, true, true, true, false, false, false, false, false, false, false, false, false, false, false, false, false, false, false, false, false, false] rfl rfl (any_of HT_.out (by kernel_rfl)) (fun _ _ _ h => h) (Or.inl ⟨by rfl, ?_⟩) ?_ ?_
               rotate_left
               ·intro w'
                go_simp
                with_reducible rfl
               rotate_left
               ·simp only [Act.put, List.setIfInBounds_toArray, List.set_cons_zero, List.set_cons_succ, i64_w, i32_w]
                rfl
               refine pure_ (i := 17) (N := some 76) (v := ?_) (a' := ?_) #[true, true, true, true, true, true, true, true, true, true, true, true, true, true, true, true, false, true, false, false, false, false, false, false, false, false, false, false, false, false, false, false, false, false] rfl rfl (any_of HT_.out (by kernel_rfl)) (fun _ _ _ h => h) (Or.inl ⟨by rfl, ?_⟩) ?_ ?_
               rotate_left
               ·intro w'
                go_simp
                with_reducible rfl
               rotate_left
               ·simp only [Act.put, List.setIfInBounds_toArray, List.set_cons_zero, List.set_cons_succ, i64_w, i32_w]
                rfl
               refine take_ (i := 16) (N := some 75) (v := ?_) (a' := ?_) #[true, true, true, true, true, true, true, true, true, true, true, true, true, true, true, true, true, true, false, false, false, false, false, false, false, false, false, false, false, false, false, false, false, false] rfl rfl (take_ofW HT_.out HW_.out (by kernel_rfl)) (fun _ _ _ h => h) (Or.inl ⟨by rfl, ?_⟩) hHeld ?_ ?_
               rotate_left
               ·rintro w' ⟨s0, s1, s2, s3, s4, s5, s6, s7, s8, s9, s10, s11, s12⟩
                go_simp
                with_reducible rfl
               rotate_left
               ·simp only [Act.put, List.setIfInBounds_toArray, List.set_cons_zero, List.set_cons_succ, i64_w, i32_w]
                rfl
               refine take_ (i := 18) (N := some 77) (v := ?_) (a' := ?_) #[true, true, true, true, true, true, true, true, true, true, true, true, true, true, true, true, true, true, true, false, false, false, false, false, false, false, false, false, false, false, false, false, false, false] rfl rfl (take_ofW HT_.out HW_.out (by kernel_rfl)) (fun _ _ _ h => h) (Or.inl ⟨by rfl, ?_⟩) hHeld ?_ ?_
               rotate_left
               ·rintro w' ⟨s0, s1, s2, s3, s4, s5, s6, s7, s8, s9, s10, s11, s12⟩
                go_simp
                with_reducible rfl
               rotate_left
               ·simp only [Act.put, List.setIfInBounds_toArray, List.set_cons_zero, List.set_cons_succ, i64_w, i32_w]
                rfl
               refine pure_ (i := 19) (N := some 78) (v := ?_) (a' := ?_) #[true, true, true, true, true, true, true, true, true, true, true, true, true, true, true, true, true, true, true, true, false, false, false, false, false, false, false, false, false, false, false, false, false, false] rfl rfl (any_of HT_.out (by kernel_rfl)) (fun _ _ _ h => h) (Or.inl ⟨by rfl, ?_⟩) ?_ ?_
               rotate_left
               ·intro w'
                go_simp
                with_reducible rfl
               rotate_left
               ·simp only [Act.put, List.setIfInBounds_toArray, List.set_cons_zero, List.set_cons_succ, i64_w, i32_w]
                rfl
               refine one_ (i := 20) (N := some 79) #[true, true, true, true, true, true, true, true, true, true, true, true, true, true, true, true, true, true, true, true, true, false, false, false, false, false, false, false, false, false, false, false, false, false] rfl rfl (one_of HT_.out (by kernel_rfl)) (by decide) (fun K hK => ?_)
               refine goes_ Try.func44 (by kernel_rfl) rfl #[.int .i64 (wrap64 (t105 + 1))] (by rfl) rfl rfl (by (try simp only [List.map_toArray, List.map_cons, List.map_nil]); first | done | rfl | (simp only [List.length_drop, List.length_take]; rfl)) ?_
               with_reducible refine (laws_pow.calls kj17 (wrap64 (t105 + 1)) t154 _ A39.out).mono ?_
               rintro e w' ⟨rfl, ⟨nd, rfl⟩⟩
               refine ⟨_, rfl, ?_⟩
               refine hK.out _ _ ⟨(blk_cell BK132.out 0).trans rfl, (blk_cell BK132.out 1).trans rfl, (blk_cell BK132.out 2).trans rfl, (blk_cell BK132.out 3).trans rfl, (blk_cell BK132.out 4).trans rfl, (blk_cell BK132.out 5).trans rfl, (blk_cell BK132.out 6).trans rfl, (blk_cell BK132.out 7).trans rfl, (blk_cell BK132.out 8).trans rfl, (blk_cell BK132.out 9).trans rfl, (blk_cell BK132.out 10).trans rfl, (blk_cell BK107.out 0).trans rfl, (blk_cell BK107.out 1).trans rfl⟩ (fun hHeld => ?_)
               clear hK K
               refine norm_ (a' := ?_) ?_ ?_
               rotate_left
               ·show Act.put _ (some 79) _ = _
                simp only [Act.put, List.setIfInBounds_toArray, List.set_cons_zero, List.set_cons_succ, i64_w, i32_w]
                rfl
               refine pure_ (i := 21) (N := some 80) (v := ?_) (a' := ?_) #[true, true, true, true, true, true, true, true, true, true, true, true, true, true, true, true, true, true, true, true, true, true, false, false, false, false, false, false, false, false, false, false, false, false] rfl rfl (any_of HT_.out (by kernel_rfl)) (fun _ _ _ h => h) (Or.inl ⟨by rfl, ?_⟩) ?_ ?_
               rotate_left
               ·intro w'
                go_simp
                with_reducible rfl
               rotate_left
               ·simp only [Act.put, List.setIfInBounds_toArray, List.set_cons_zero, List.set_cons_succ, i64_w, i32_w]
                rfl
               refine pure_ (i := 22) (N := some 81) (v := ?_) (a' := ?_) #[true, true, true, true, true, true, true, true, true, true, true, true, true, true, true, true, true, true, true, true, true, true, true, false, false, false, false, false, false, false, false, false, false, false] rfl rfl (any_of HT_.out (by kernel_rfl)) (fun _ _ _ h => h) (Or.inl ⟨by rfl, ?_⟩) ?_ ?_
               rotate_left
               ·intro w'
                go_simp
                with_reducible rfl
               rotate_left
               ·simp only [Act.put, List.setIfInBounds_toArray, List.set_cons_zero, List.set_cons_succ, i64_w, i32_w]
                rfl
               refine pure_ (i := 23) (N := some 82) (v := ?_) (a' := ?_) #[true, true, true, true, true, true, true, true, true, true, true, true, true, true, true, true, true, true, true, true, true, true, true, true, false, false, false, false, false, false, false, false, false, false] rfl rfl (any_of HT_.out (by kernel_rfl)) (fun _ _ _ h => h) (Or.inl ⟨by rfl, ?_⟩) ?_ ?_
               rotate_left
               ·intro w'
                go_simp
                with_reducible rfl
               rotate_left
               ·simp only [Act.put, List.setIfInBounds_toArray, List.set_cons_zero, List.set_cons_succ, i64_w, i32_w]
                rfl
               refine pure_ (i := 24) (N := some 83) (v := ?_) (a' := ?_) #[true, true, true, true, true, true, true, true, true, true, true, true, true, true, true, true, true, true, true, true, true, true, true, true, true, false, false, false, false, false, false, false, false, false] rfl rfl (any_of HT_.out (by kernel_rfl)) (fun _ _ _ h => h) (Or.inl ⟨by rfl, ?_⟩) ?_ ?_
               rotate_left
               ·intro w'
                go_simp
                with_reducible rfl
               rotate_left
               ·simp only [Act.put, List.setIfInBounds_toArray, List.set_cons_zero, List.set_cons_succ, i64_w, i32_w]
                rfl
               refine pure_ (i := 25) (N := some 84) (v := ?_) (a' := ?_) #[true, true, true, true, true, true, true, true, true, true, true, true, true, true, true, true, true, true, true, true, true, true, true, true, true, true, false, false, false, false, false, false, false, false] rfl rfl (any_of HT_.out (by kernel_rfl)) (fun _ _ _ h => h) (Or.inl ⟨by rfl, ?_⟩) ?_ ?_
               rotate_left
               ·intro w'
                go_simp
                with_reducible rfl
               rotate_left
               ·simp only [Act.put, List.setIfInBounds_toArray, List.set_cons_zero, List.set_cons_succ, i64_w, i32_w]
                rfl
               refine pure_ (i := 26) (N := some 85) (v := ?_) (a' := ?_) #[true, true, true, true, true, true, true, true, true, true, true, true, true, true, true, true, true, true, true, true, true, true, true, true, true, true, true, false, false, false, false, false, false, false] rfl rfl (any_of HT_.out (by kernel_rfl)) (fun _ _ _ h => h) (Or.inl ⟨by rfl, ?_⟩) ?_ ?_
               rotate_left
               ·intro w'
                go_simp
                with_reducible rfl
               rotate_left
               ·simp only [Act.put, List.setIfInBounds_toArray, List.set_cons_zero, List.set_cons_succ, i64_w, i32_w]
                rfl
               refine pure_ (i := 27) (N := some 86) (v := ?_) (a' := ?_) #[true, true, true, true, true, true, true, true, true, true, true, true, true, true, true, true, true, true, true, true, true, true, true, true, true, true, true, true, false, false, false, false, false, false] rfl rfl (any_of HT_.out (by kernel_rfl)) (fun _ _ _ h => h) (Or.inl ⟨by rfl, ?_⟩) ?_ ?_
               rotate_left
               ·intro w'
                go_simp
                with_reducible rfl
               rotate_left
               ·simp only [Act.put, List.setIfInBounds_toArray, List.set_cons_zero, List.set_cons_succ, i64_w, i32_w]
                rfl
               refine pure_ (i := 28) (N := some 87) (v := ?_) (a' := ?_) #[true, true, true, true, true, true, true, true, true, true, true, true, true, true, true, true, true, true, true, true, true, true, true, true, true, true, true, true, true, false, false, false, false, false] rfl rfl (any_of HT_.out (by kernel_rfl)) (fun _ _ _ h => h) (Or.inl ⟨by rfl, ?_⟩) ?_ ?_
               rotate_left
               ·intro w'
                go_simp
                with_reducible rfl
               rotate_left
               ·simp only [Act.put, List.setIfInBounds_toArray, List.set_cons_zero, List.set_cons_succ, i64_w, i32_w]
                rfl
               refine pure_ (i := 29) (N := some 88) (v := undef) (a' := ?_) #[true, true, true, true, true, true, true, true, true, true, true, true, true, true, true, true, true, true, true, true, true, true, true, true, true, true, true, true, true, true, false, false, false, false] rfl rfl (any_of HT_.out (by kernel_rfl)) (fun _ _ _ h => h) (Or.inr ⟨by rfl, rfl⟩) ?_ ?_
               rotate_left
               ·simp only [Act.put, List.setIfInBounds_toArray, List.set_cons_zero, List.set_cons_succ, i64_w, i32_w]
                rfl
               refine pure_ (i := 30) (N := some 89) (v := undef) (a' := ?_) #[true, true, true, true, true, true, true, true, true, true, true, true, true, true, true, true, true, true, true, true, true, true, true, true, true, true, true, true, true, true, true, false, false, false] rfl rfl (any_of HT_.out (by kernel_rfl)) (fun _ _ _ h => h) (Or.inr ⟨by rfl, rfl⟩) ?_ ?_
               rotate_left
               ·simp only [Act.put, List.setIfInBounds_toArray, List.set_cons_zero, List.set_cons_succ, i64_w, i32_w]
                rfl
               refine pure_ (i := 31) (N := some 90) (v := undef) (a' := ?_) #[true, true, true, true, true, true, true, true, true, true, true, true, true, true, true, true, true, true, true, true, true, true, true, true, true, true, true, true, true, true, true, true, false, false] rfl rfl (any_of HT_.out (by kernel_rfl)) (fun _ _ _ h => h) (Or.inr ⟨by rfl, rfl⟩) ?_ ?_
               rotate_left
               ·simp only [Act.put, List.setIfInBounds_toArray, List.set_cons_zero, List.set_cons_succ, i64_w, i32_w]
                rfl
               refine pure_ (i := 32) (N := some 91) (v := ?_) (a' := ?_) #[true, true, true, true, true, true, true, true, true, true, true, true, true, true, true, true, true, true, true, true, true, true, true, true, true, true, true, true, true, true, true, true, true, false] rfl rfl (any_of HT_.out (by kernel_rfl)) (fun _ _ _ h => h) (Or.inl ⟨by rfl, ?_⟩) ?_ ?_
               rotate_left
               ·intro w'
                go_simp
                with_reducible rfl
               rotate_left
               ·simp only [Act.put, List.setIfInBounds_toArray, List.set_cons_zero, List.set_cons_succ, i64_w, i32_w]
                rfl
               refine pure_ (i := 33) (N := some 92) (v := ?_) (a' := ?_) #[true, true, true, true, true, true, true, true, true, true, true, true, true, true, true, true, true, true, true, true, true, true, true, true, true, true, true, true, true, true, true, true, true, true] rfl rfl (any_of HT_.out (by kernel_rfl)) (fun _ _ _ h => h) (Or.inl ⟨by rfl, ?_⟩) ?_ ?_
               rotate_left
               ·intro w'
                go_simp
                with_reducible rfl
               rotate_left
               ·simp only [Act.put, List.setIfInBounds_toArray, List.set_cons_zero, List.set_cons_succ, i64_w, i32_w]
                rfl
               refine done_ (done_of HT_.out (by kernel_rfl)) ?_
               try go_wp2
               go_roundg kj17
               case measure => have := HK1.out; have := HJ17.out; omega
               case rel => exact ⟨(wrap64 (x28_1 + 1)), (by first | rfl | (simp; done) | (simp [*]; done)), H', ⟨by have := HK1.out; have := HJ17.out; omega⟩, ⟨by (with_reducible repeat (first | apply Kd.R_alloc | apply Kd.R_drewN | apply Kd.R_drew)); exact Kd.R_mono HO_3.out (fun _ hk => trivial)⟩, ⟨by (with_reducible repeat (first | apply Kd.R_alloc | apply Kd.R_drewN | apply Kd.R_drew)); exact Kd.R_mono HO_26.out (fun _ hk => trivial)⟩, ⟨by (with_reducible repeat (first | refine blk_drewN ?_ _ | refine blk_drew ?_ | refine blk_alloc ?_ _)); exact BK107.out⟩, ⟨by repeat (first | (with_reducible first | exact HB.out | apply below_alloc | apply pw_below_drewN | apply below_drew1 | refine below_set ?_ GE107.out | refine below_set ?_ GE132.out) | exact HB.out)⟩⟩
           ·rw [if_neg c37] at H
            have c37b0 : (t152 == t108) = false := beq_eq_false_iff_ne.mpr c37; have c37b1 : (t152 != t108) = true := bne_iff_ne.mpr c37
            exact absurd ((Option.some.inj H).trans HT.out) (by decide)
          ·replace c36 := Bool.eq_false_iff.mpr c36
           subst c36
           have H1 : (some false) = some r := by rw [if_neg (show ¬ (false = true) by decide)] at H; exact H
           clear H; have H := H1; clear H1
           exact absurd ((Option.some.inj H).trans HT.out) (by decide)
      ·rw [if_neg c16] at H
       exact absurd H (by simp)
     ·rw [if_neg c15] at H
      exact absurd H (by simp)
    ·rw [if_neg c14] at H
     have c14b0 : decide (x28_1 < (y110.length : Int)) = false := decide_eq_false c14; clear c14
     obtain rfl := Option.some.inj H
     go_wp2
     go_ret
     exact ⟨by first | rfl | (simp [errW_none, errW_some] <;> rfl) | (simp [*, errW_none, errW_some] <;> rfl), by repeat (first | (with_reducible first | exact HB.out | apply below_alloc | apply pw_below_drewN | apply below_drew1 | refine below_set ?_ GE107.out) | exact HB.out)⟩
end Go.Proofs.Ytlpfmhikahlcoaa.G
