-- texts of this session, merged by a program of it (wip/gen/pack.py)
import Derived.Test.YthipjoioicmcnaaKFnLogic1
import Derived.Test.YthipjoioicmcnaaKFnLogic2
import Derived.Test.YthipjoioicmcnaaKFnLogic4
import Derived.Test.YthipjoioicmcnaaKFnLogic5
-- written by a program of this session (wip/gen/gen.py); Lean checks it
namespace Go.Proofs.Ythipjoioicmcnaa.G
open Go.Proofs.Ythipjoioicmcnaa.Sh Go.RowKit Go.Proofs.YthipjoioicmcnaaW.PrintWords Go.Proofs.YthipjoioicmcnaaW.PrintLast Go.Proofs.YthipjoioicmcnaaW.PrintMore
attribute [local go_sem] max2_int min2_int max_two min_two max_three min_three max_four min_four   -- for this text's walks alone
set_option linter.unusedVariables false
set_option linter.unusedSimpArgs false

attribute [local go_sem high] eqA26
/-! ### laws_FnLogic: function 6 -/
def laws_FnLogic.j0 : Nat → Bool → Bool → Int → ByteArray → Int → ByteArray → Int → ByteArray → Int → ByteArray → Option (Bool)
  | 0, _, _, _, _, _, _, _, _, _, _ => none
  | k + 1, x10, x51, x518000, x518001, x519000, x519001, x523000, x523001, x527000, x527001 => if x51 = true then (some false) else (if x10 = true then ((impl_TableXor.f k x527000 x527001 x519000 x519001).bind fun bt531 => ((impl_TableNot.f k x519000 x519001).bind fun bt535 => ((impl_TableAnd.f k x518000 x518001 bt535.1 bt535.2).bind fun bt537 => ((impl_TableNot.f k x518000 x518001).bind fun bt541 => ((impl_TableAnd.f k bt541.1 bt541.2 x519000 x519001).bind fun bt543 => ((impl_TableXor.f k bt537.1 bt537.2.1 bt543.1 bt543.2.1).bind fun bt547 => (if (bt531.1 == x518000 && (bt531.2.1.toList == x518001.toList)) = true then (if (bt547.1 == x527000 && (bt547.2.1.toList == x527001.toList)) = true then ((impl_TableNot.f k x518000 x518001).bind fun bt551 => ((impl_TableNot.f k bt551.1 bt551.2).bind fun bt553 => (if (bt553.1 == x518000 && (bt553.2.toList == x518001.toList)) = true then ((impl_TableKey.f k x518000 x518001).bind fun t555 => ((spec_TableKey.f k x518000 x518001).bind fun t556 => (if t555.toList = t556.toList then ((impl_TableKey.f k x518000 x518001).bind fun t557 => ((impl_TableKey.f k x519000 x519001).bind fun t558 => (if ((t557.toList == t558.toList) == (x518000 == x519000 && (x518001.toList == x519001.toList))) = true then ((impl_TableCount.f k x523000 x523001).bind fun t559 => ((impl_TableCount.f k bt537.1 bt537.2.1).bind fun t560 => ((impl_TableCount.f k x518000 x518001).bind fun t561 => (if (wrap64 (t559 + t560)) = t561 then ((impl_TableCount.f k x527000 x527001).bind fun t562 => ((impl_TableCount.f k bt537.1 bt537.2.1).bind fun t563 => ((impl_TableCount.f k bt543.1 bt543.2.1).bind fun t564 => (some (t562 == (wrap64 (t563 + t564))))))) else (some false))))) else (some false)))) else (some false)))) else (some false)))) else (some false)) else (some false)))))))) else (if x523001.toList = ([] : List UInt8) then (some (x527001.toList == ([] : List UInt8))) else (some false)))
def laws_FnLogic.f (k : Nat) (l0 : List Int) : Option (Bool) := (laws_big.f l0).bind fun t512 => (if t512 = true then (some true) else ((spec_DrawTableAnd.f k l0).bind fun bt513 => ((impl_TableAnd.f k bt513.1 bt513.2.1 bt513.2.2.1 bt513.2.2.2).bind fun bt519 => ((impl_TableXor.f k bt513.1 bt513.2.1 bt513.2.2.1 bt513.2.2.2).bind fun bt523 => ((spec_TableAnd.f k bt513.1 bt513.2.1 bt513.2.2.1 bt513.2.2.2).bind fun bt527 => (if (bt519.2.2 != bt527.2.2) = true then (laws_FnLogic.j0 k bt527.2.2 true bt513.1 bt513.2.1 bt513.2.2.1 bt513.2.2.2 bt519.1 bt519.2.1 bt523.1 bt523.2.1) else (laws_FnLogic.j0 k bt527.2.2 (bt523.2.2 != bt527.2.2) bt513.1 bt513.2.1 bt513.2.2.1 bt513.2.2.2 bt519.1 bt519.2.1 bt523.1 bt523.2.1)))))))
def laws_FnLogic.T12 : Bool × List (List Nat × List Nat) := (true, [([], []), ([], []), ([1], [1]), ([0, 2, 2], [0, 2]), ([3], [3]), ([4], [4]), ([4], [4]), ([], []), ([7, 5, 3, 0, 1, 2, 3, 4, 5, 7], [5, 7]), ([6, 8, 0, 1, 2, 3, 4, 5, 6, 7, 8], [6])])
def laws_FnLogic.B12 : List Nat := [0, 0, 2, 7, 15, 31, 31, 0, 191, 511]
theorem laws_FnLogic.tab12 : rtab .any (opsOf Try.f6 12) = laws_FnLogic.T12 := by kernel_rfl
theorem laws_FnLogic.bits12 : waitsOk laws_FnLogic.T12.2 laws_FnLogic.B12 = true := by kernel_rfl
def laws_FnLogic.T13 : Bool × List (List Nat × List Nat) := (true, [([], []), ([0], [0]), ([], []), ([1, 2, 1], [1, 2]), ([3], [3]), ([4], [4]), ([4], [4]), ([], []), ([7, 5, 3, 0, 1, 2, 3, 4, 5, 7], [5, 7]), ([6, 8, 0, 1, 2, 3, 4, 5, 6, 7, 8], [6])])
def laws_FnLogic.B13 : List Nat := [0, 1, 0, 7, 15, 31, 31, 0, 191, 511]
theorem laws_FnLogic.tab13 : rtab .any (opsOf Try.f6 13) = laws_FnLogic.T13 := by kernel_rfl
theorem laws_FnLogic.bits13 : waitsOk laws_FnLogic.T13.2 laws_FnLogic.B13 = true := by kernel_rfl
def laws_FnLogic.T15 : Bool × List (List Nat × List Nat) := (true, [([], []), ([], []), ([0, 1], [0, 1]), ([2], [2]), ([3], [3]), ([3], [3]), ([4, 5, 3], [3, 4, 5]), ([3, 6], [3, 6]), ([7, 3], [7]), ([8], [8]), ([9, 8, 8], [8, 9]), ([10, 10, 8], [8, 10]), ([8], [8]), ([11, 12, 8], [8, 11, 12]), ([8, 13], [8, 13]), ([14, 11], [14]), ([15], [15]), ([16, 15, 15], [15, 16]), ([15], [15]), ([18, 17, 15], [15, 18]), ([17, 19, 15], [15, 17, 19]), ([15, 20], [15, 20]), ([21, 19], [21]), ([22], [22]), ([23, 22, 22], [22, 23]), ([22], [22]), ([25, 24, 22], [22, 25]), ([24, 26, 22], [22, 24, 26]), ([22], [22]), ([22], [22]), ([28, 29, 22], [22, 28, 29]), ([27, 30, 22], [22, 27, 30]), ([22, 31], [22, 31]), ([32, 26], [32]), ([33], [33]), ([34, 33, 33], [33, 34]), ([33], [33]), ([36, 35, 33], [33, 36]), ([35, 37, 33], [33, 35, 37]), ([33], [33]), ([39, 37, 33], [33, 39]), ([38, 40, 33], [33, 38, 40]), ([33, 41], [33, 41]), ([42, 40], [42]), ([43], [43]), ([44, 43, 43], [43, 44]), ([43], [43]), ([46, 45, 43], [43, 46]), ([43], [43]), ([48, 47, 43], [43, 48]), ([47, 49, 43], [43, 47, 49]), ([45, 50, 43], [43, 45, 50]), ([43, 51], [43, 51]), ([52, 49, 0, 1, 2, 3, 4, 5, 6, 7, 8, 9, 10, 11, 12, 13, 14, 15, 16, 17, 18, 19, 20, 21, 22, 23, 24, 25, 26, 27, 28, 29, 30, 31, 32, 33, 34, 35, 36, 37, 38, 39, 40, 41, 42, 43, 44, 45, 46, 47, 48, 49, 50, 51, 52], [52])])
def laws_FnLogic.B15 : List Nat := [0, 0, 3, 7, 15, 15, 63, 127, 255, 511, 1023, 2047, 511, 8191, 16383, 32767, 65535, 131071, 65535, 524287, 1048575, 2097151, 4194303, 8388607, 16777215, 8388607, 67108863, 134217727, 8388607, 8388607, 813694975, 2147483647, 4294967295, 8589934591, 17179869183, 34359738367, 17179869183, 137438953471, 274877906943, 17179869183, 824633720831, 2199023255551, 4398046511103, 8796093022207, 17592186044415, 35184372088831, 17592186044415, 140737488355327, 17592186044415, 562949953421311, 1125899906842623, 2251799813685247, 4503599627370495, 9007199254740991]
theorem laws_FnLogic.tab15 : rtab .any (opsOf Try.f6 15) = laws_FnLogic.T15 := by kernel_rfl
theorem laws_FnLogic.bits15 : waitsOk laws_FnLogic.T15.2 laws_FnLogic.B15 = true := by kernel_rfl
set_option maxHeartbeats 8000000 in
set_option maxRecDepth 100000 in
theorem laws_FnLogic.calls (k : Nat) (A0 : Option Addr) (c0 : Nat) (l0 : List Int) (r : Bool) (w : World) (hr0 : Kd.C (Kd.int .u8) w A0 l0.length l0) (hc0 : l0.length ≤ c0) (ht_ : r = true) (h : laws_FnLogic.f k l0 = some r) :
  Calls Try.prog 6 #[.slice A0 l0.length c0] w fun e w' => e = .returned (.bool r) ∧ Below w.heap.size w w' := by
 have hu26 := Try.underlying26
 have HT := Aside0.mk ht_
 clear ht_
 have HR0 := Aside0.mk hr0
 have HC0 := Aside0.mk hc0
 clear hr0 hc0
 have HB := Aside0.mk (Below.refl w.heap.size w)
 have H : ((laws_big.f l0).bind fun t512 => (if t512 = true then (some true) else ((spec_DrawTableAnd.f k l0).bind fun bt513 => ((impl_TableAnd.f k bt513.1 bt513.2.1 bt513.2.2.1 bt513.2.2.2).bind fun bt519 => ((impl_TableXor.f k bt513.1 bt513.2.1 bt513.2.2.1 bt513.2.2.2).bind fun bt523 => ((spec_TableAnd.f k bt513.1 bt513.2.1 bt513.2.2.1 bt513.2.2.2).bind fun bt527 => (if (bt519.2.2 != bt527.2.2) = true then (laws_FnLogic.j0 k bt527.2.2 true bt513.1 bt513.2.1 bt513.2.2.1 bt513.2.2.2 bt519.1 bt519.2.1 bt523.1 bt523.2.1) else (laws_FnLogic.j0 k bt527.2.2 (bt523.2.2 != bt527.2.2) bt513.1 bt513.2.1 bt513.2.2.1 bt513.2.2.2 bt519.1 bt519.2.1 bt523.1 bt523.2.1)))))))) = some r := h
 clear h
 replace H := Option.bind_eq_some_iff.mp H
 obtain ⟨t512, A20, H⟩ := H
 replace H : (if t512 = true then (some true) else ((spec_DrawTableAnd.f k l0).bind fun bt513 => ((impl_TableAnd.f k bt513.1 bt513.2.1 bt513.2.2.1 bt513.2.2.2).bind fun bt519 => ((impl_TableXor.f k bt513.1 bt513.2.1 bt513.2.2.1 bt513.2.2.2).bind fun bt523 => ((spec_TableAnd.f k bt513.1 bt513.2.1 bt513.2.2.1 bt513.2.2.2).bind fun bt527 => (if (bt519.2.2 != bt527.2.2) = true then (laws_FnLogic.j0 k bt527.2.2 true bt513.1 bt513.2.1 bt513.2.2.1 bt513.2.2.2 bt519.1 bt519.2.1 bt523.1 bt523.2.1) else (laws_FnLogic.j0 k bt527.2.2 (bt523.2.2 != bt527.2.2) bt513.1 bt513.2.1 bt513.2.2.1 bt513.2.2.2 bt519.1 bt519.2.1 bt523.1 bt523.2.1))))))) = some r := H
 have A2 := Aside0.mk A20
 clear A20
 by_cases c3 : t512 = true
 ·subst c3
  have H1 : (some true) = some r := by rw [if_pos rfl] at H; exact H
  clear H
  have H := H1
  clear H1
  obtain rfl := Option.some.inj H
  go_enter Try.func6, Try.ntmps6
  go_wp2_with (first | ((with_reducible refine gate_callee (f := 11) rfl ?_); refine goesL_ (some 20) rfl rfl Try.func11 (by kernel_rfl) rfl #[.slice A0 l0.length c0] rfl (by (try simp only [List.map_toArray, List.map_cons, List.map_nil]); first | done | rfl | (simp only [List.length_drop, List.length_take]; rfl)) ?_; (with_reducible refine (laws_big.calls _ _ l0 true _ ?side1 ?side2 A2.out).mono ?_); (case side1 => repeat (first | exact HR0.out | (with_reducible refine Kd.C_alloc ?_ _) | (with_reducible refine Kd.C_drewN ?_ _) | (with_reducible refine Kd.C_drew ?_))); (case side2 => exact HC0.out); rintro e w' ⟨rfl, ⟨nd, rfl⟩⟩; refine ⟨_, rfl, ?_⟩))
  go_ret
  exact ⟨by first | rfl | (simp [errW_none, errW_some] <;> rfl) | (simp [*, errW_none, errW_some] <;> rfl), by repeat (first | (with_reducible first | exact HB.out | apply below_alloc | apply pw_below_drewN | apply below_drew1) | exact HB.out)⟩
 ·replace c3 := Bool.eq_false_iff.mpr c3
  subst c3
  have H1 : ((spec_DrawTableAnd.f k l0).bind fun bt513 => ((impl_TableAnd.f k bt513.1 bt513.2.1 bt513.2.2.1 bt513.2.2.2).bind fun bt519 => ((impl_TableXor.f k bt513.1 bt513.2.1 bt513.2.2.1 bt513.2.2.2).bind fun bt523 => ((spec_TableAnd.f k bt513.1 bt513.2.1 bt513.2.2.1 bt513.2.2.2).bind fun bt527 => (if (bt519.2.2 != bt527.2.2) = true then (laws_FnLogic.j0 k bt527.2.2 true bt513.1 bt513.2.1 bt513.2.2.1 bt513.2.2.2 bt519.1 bt519.2.1 bt523.1 bt523.2.1) else (laws_FnLogic.j0 k bt527.2.2 (bt523.2.2 != bt527.2.2) bt513.1 bt513.2.1 bt513.2.2.1 bt513.2.2.2 bt519.1 bt519.2.1 bt523.1 bt523.2.1)))))) = some r := by rw [if_neg (show ¬ (false = true) by decide)] at H; exact H
  clear H
  have H := H1
  clear H1
  replace H := Option.bind_eq_some_iff.mp H
  obtain ⟨⟨t513, t514, t515, t516⟩, A40, H⟩ := H
  replace H : ((impl_TableAnd.f k t513 t514 t515 t516).bind fun bt519 => ((impl_TableXor.f k t513 t514 t515 t516).bind fun bt523 => ((spec_TableAnd.f k t513 t514 t515 t516).bind fun bt527 => (if (bt519.2.2 != bt527.2.2) = true then (laws_FnLogic.j0 k bt527.2.2 true t513 t514 t515 t516 bt519.1 bt519.2.1 bt523.1 bt523.2.1) else (laws_FnLogic.j0 k bt527.2.2 (bt523.2.2 != bt527.2.2) t513 t514 t515 t516 bt519.1 bt519.2.1 bt523.1 bt523.2.1))))) = some r := H
  have A4 := Aside0.mk A40
  clear A40
  replace H := Option.bind_eq_some_iff.mp H
  obtain ⟨⟨t519, t520, t521⟩, A50, H⟩ := H
  replace H : ((impl_TableXor.f k t513 t514 t515 t516).bind fun bt523 => ((spec_TableAnd.f k t513 t514 t515 t516).bind fun bt527 => (if (t521 != bt527.2.2) = true then (laws_FnLogic.j0 k bt527.2.2 true t513 t514 t515 t516 t519 t520 bt523.1 bt523.2.1) else (laws_FnLogic.j0 k bt527.2.2 (bt523.2.2 != bt527.2.2) t513 t514 t515 t516 t519 t520 bt523.1 bt523.2.1)))) = some r := H
  have A5 := Aside0.mk A50
  clear A50
  replace H := Option.bind_eq_some_iff.mp H
  obtain ⟨⟨t523, t524, t525⟩, A60, H⟩ := H
  replace H : ((spec_TableAnd.f k t513 t514 t515 t516).bind fun bt527 => (if (t521 != bt527.2.2) = true then (laws_FnLogic.j0 k bt527.2.2 true t513 t514 t515 t516 t519 t520 t523 t524) else (laws_FnLogic.j0 k bt527.2.2 (t525 != bt527.2.2) t513 t514 t515 t516 t519 t520 t523 t524))) = some r := H
  have A6 := Aside0.mk A60
  clear A60
  replace H := Option.bind_eq_some_iff.mp H
  obtain ⟨⟨t527, t528, t529⟩, A70, H⟩ := H
  replace H : (if (t521 != t529) = true then (laws_FnLogic.j0 k t529 true t513 t514 t515 t516 t519 t520 t523 t524) else (laws_FnLogic.j0 k t529 (t525 != t529) t513 t514 t515 t516 t519 t520 t523 t524)) = some r := H
  have A7 := Aside0.mk A70
  clear A70
  have HC8 := Aside0.mk H
  clear H
  go_enter Try.func6, Try.ntmps6
  go_upto_region 7 with (first | ((with_reducible refine gate_callee (f := 11) rfl ?_); refine goesL_ (some 20) rfl rfl Try.func11 (by kernel_rfl) rfl #[.slice A0 l0.length c0] rfl (by (try simp only [List.map_toArray, List.map_cons, List.map_nil]); first | done | rfl | (simp only [List.length_drop, List.length_take]; rfl)) ?_; (with_reducible refine (laws_big.calls _ _ l0 false _ ?side1 ?side2 A2.out).mono ?_); (case side1 => repeat (first | exact HR0.out | (with_reducible refine Kd.C_alloc ?_ _) | (with_reducible refine Kd.C_drewN ?_ _) | (with_reducible refine Kd.C_drew ?_))); (case side2 => exact HC0.out); rintro e w' ⟨rfl, ⟨nd, rfl⟩⟩; refine ⟨_, rfl, ?_⟩) | ((with_reducible refine gate_callee (f := 26) rfl ?_); refine goesL_ (some 23) rfl rfl Try.func26 (by kernel_rfl) rfl #[.slice A0 l0.length c0] rfl (by (try simp only [List.map_toArray, List.map_cons, List.map_nil]); first | done | rfl | (simp only [List.length_drop, List.length_take]; rfl)) ?_; (with_reducible refine (spec_DrawTableAnd.calls k _ _ l0 t513 t514 t515 t516 _ ?side1 ?side2 A4.out).mono ?_); (case side1 => repeat (first | exact HR0.out | (with_reducible refine Kd.C_alloc ?_ _) | (with_reducible refine Kd.C_drewN ?_ _) | (with_reducible refine Kd.C_drew ?_))); (case side2 => exact HC0.out); rintro e w9 ⟨rfl, hb⟩; refine ⟨_, rfl, ?_⟩; have n0_ := bs HB hb; clear HB; have HB := n0_; clear n0_; (try clear hb); (try clear hb2); (try clear hk); (try clear hi)) | ((with_reducible refine gate_dst (N := 3) rfl ?_); refine box_event ?hg (N := 3) ?hd (cs := #[.int .i64 0, .string (⟨#[]⟩ : ByteArray)]) (t := 26) ?hr ?_; (case hd => rfl); (case hg => rfl); (case hr => first | (go_simp; done) | (go_simp; rfl)); intro gb517 hg w10 hbox hb; have n0_ := bs HB hb; have n1_ := Aside0.mk (hbox); have n2_ := bz hg HB; have n3_ := bz hg HB; clear HB; have HB := n0_; have BK517 := n1_; have GW517 := n2_; have GE517 := n3_; clear n0_ n1_ n2_ n3_; clear hb hbox hg) | ((with_reducible refine gate_dst (N := 4) rfl ?_); refine box_event ?hg (N := 4) ?hd (cs := #[.int .i64 0, .string (⟨#[]⟩ : ByteArray)]) (t := 26) ?hr ?_; (case hd => rfl); (case hg => rfl); (case hr => first | (go_simp; done) | (go_simp; rfl)); intro gb518 hg w11 hbox hb; have n0_ := bb BK517 hb; have n1_ := bs HB hb; have n2_ := Aside0.mk (hbox); have n3_ := bz hg HB; have n4_ := bz hg HB; have n5_ := nl hg BK517; have n6_ := ng hg BK517; clear BK517; clear HB; have BK517 := n0_; have HB := n1_; have BK518 := n2_; have GW518 := n3_; have GE518 := n4_; have NB517_518 := n5_; have NB518_517 := n6_; clear n0_ n1_ n2_ n3_ n4_ n5_ n6_; clear hb hbox hg; have hnb12 := NB517_518.out; have hnc12 := NB518_517.out; have hcz13_0 : w11.cell? ⟨gb517, 0, none⟩ = some (.int .i64 0) := (blk_cell BK517.out 0).trans rfl; have hcz13_1 : w11.cell? ⟨gb517, 1, none⟩ = some (.string (⟨#[]⟩ : ByteArray)) := (blk_cell BK517.out 1).trans rfl; have hfz13_0 := blk_frozen BK517.out 0; have hfz13_1 := blk_frozen BK517.out 1; have hcz14_0 : w11.cell? ⟨gb518, 0, none⟩ = some (.int .i64 0) := (blk_cell BK518.out 0).trans rfl; have hcz14_1 : w11.cell? ⟨gb518, 1, none⟩ = some (.string (⟨#[]⟩ : ByteArray)) := (blk_cell BK518.out 1).trans rfl; have hfz14_0 := blk_frozen BK518.out 0; have hfz14_1 := blk_frozen BK518.out 1) | ((with_reducible refine gate_callee (f := 27) rfl ?_); refine goesL_ (some 29) rfl rfl Try.func27 (by kernel_rfl) rfl #[.agg #[.int .i64 t513, .string t514], .agg #[.int .i64 t515, .string t516]] rfl (by (try simp only [List.map_toArray, List.map_cons, List.map_nil]); first | done | rfl | (simp only [List.length_drop, List.length_take]; rfl)) ?_; (with_reducible refine (impl_TableAnd.calls k t513 t514 t515 t516 t519 t520 t521 _ A5.out).mono ?_); rintro e w15 ⟨rfl, hb⟩; refine ⟨_, rfl, ?_⟩; have n0_ := Aside0.mk (blk_below (g := gb517) (o := .cells #[.int .i64 t513, .string t514] 26 (0, 0)) (by (with_reducible repeat (first | refine blk_drewN ?_ _ | refine blk_drew ?_ | refine blk_alloc ?_ _)); refine blk_far ?_ NB517_518.out _; (with_reducible repeat (first | refine blk_drewN ?_ _ | refine blk_drew ?_ | refine blk_alloc ?_ _)); refine blk_far ?_ NB517_518.out _; (with_reducible repeat (first | refine blk_drewN ?_ _ | refine blk_drew ?_ | refine blk_alloc ?_ _)); refine blk_put (cs := #[.int .i64 t513, .string (⟨#[]⟩ : ByteArray)]) ?_ 1 _ rfl; (with_reducible repeat (first | refine blk_drewN ?_ _ | refine blk_drew ?_ | refine blk_alloc ?_ _)); refine blk_put (cs := #[.int .i64 0, .string (⟨#[]⟩ : ByteArray)]) ?_ 0 _ rfl; (with_reducible repeat (first | refine blk_drewN ?_ _ | refine blk_drew ?_ | refine blk_alloc ?_ _)); exact BK517.out) hb); have n1_ := Aside0.mk (blk_below (g := gb518) (o := .cells #[.int .i64 t515, .string t516] 26 (0, 0)) (by (with_reducible repeat (first | refine blk_drewN ?_ _ | refine blk_drew ?_ | refine blk_alloc ?_ _)); refine blk_put (cs := #[.int .i64 t515, .string (⟨#[]⟩ : ByteArray)]) ?_ 1 _ rfl; (with_reducible repeat (first | refine blk_drewN ?_ _ | refine blk_drew ?_ | refine blk_alloc ?_ _)); refine blk_put (cs := #[.int .i64 0, .string (⟨#[]⟩ : ByteArray)]) ?_ 0 _ rfl; (with_reducible repeat (first | refine blk_drewN ?_ _ | refine blk_drew ?_ | refine blk_alloc ?_ _)); refine blk_far ?_ NB518_517.out _; (with_reducible repeat (first | refine blk_drewN ?_ _ | refine blk_drew ?_ | refine blk_alloc ?_ _)); refine blk_far ?_ NB518_517.out _; (with_reducible repeat (first | refine blk_drewN ?_ _ | refine blk_drew ?_ | refine blk_alloc ?_ _)); exact BK518.out) hb); have n2_ := bs HB hb; clear BK517; clear BK518; clear HB; have BK517 := n0_; have BK518 := n1_; have HB := n2_; clear n0_ n1_ n2_; (try clear hb); (try clear hb2); (try clear hk); (try clear hi)) | ((with_reducible refine gate_dst (N := 5) rfl ?_); refine box_event ?hg (N := 5) ?hd (cs := #[.int .i64 0, .string (⟨#[]⟩ : ByteArray)]) (t := 26) ?hr ?_; (case hd => rfl); (case hg => rfl); (case hr => first | (go_simp; done) | (go_simp; rfl)); intro gb522 hg w16 hbox hb; have n0_ := bb BK517 hb; have n1_ := bb BK518 hb; have n2_ := bs HB hb; have n3_ := Aside0.mk (hbox); have n4_ := bz hg HB; have n5_ := bz hg HB; have n6_ := nl hg BK517; have n7_ := ng hg BK517; have n8_ := nl hg BK518; have n9_ := ng hg BK518; clear BK517; clear BK518; clear HB; have BK517 := n0_; have BK518 := n1_; have HB := n2_; have BK522 := n3_; have GW522 := n4_; have GE522 := n5_; have NB517_522 := n6_; have NB522_517 := n7_; have NB518_522 := n8_; have NB522_518 := n9_; clear n0_ n1_ n2_ n3_ n4_ n5_ n6_ n7_ n8_ n9_; clear hb hbox hg; have hnb17 := NB522_517.out; have hnc17 := NB517_522.out; have hnb18 := NB522_518.out; have hnc18 := NB518_522.out; have hcz19_0 : w16.cell? ⟨gb522, 0, none⟩ = some (.int .i64 0) := (blk_cell BK522.out 0).trans rfl; have hcz19_1 : w16.cell? ⟨gb522, 1, none⟩ = some (.string (⟨#[]⟩ : ByteArray)) := (blk_cell BK522.out 1).trans rfl; have hfz19_0 := blk_frozen BK522.out 0; have hfz19_1 := blk_frozen BK522.out 1; have hcz20_0 : w16.cell? ⟨gb517, 0, none⟩ = some (.int .i64 t513) := (blk_cell BK517.out 0).trans rfl; have hcz20_1 : w16.cell? ⟨gb517, 1, none⟩ = some (.string t514) := (blk_cell BK517.out 1).trans rfl; have hfz20_0 := blk_frozen BK517.out 0; have hfz20_1 := blk_frozen BK517.out 1; have hcz21_0 : w16.cell? ⟨gb518, 0, none⟩ = some (.int .i64 t515) := (blk_cell BK518.out 0).trans rfl; have hcz21_1 : w16.cell? ⟨gb518, 1, none⟩ = some (.string t516) := (blk_cell BK518.out 1).trans rfl; have hfz21_0 := blk_frozen BK518.out 0; have hfz21_1 := blk_frozen BK518.out 1) | ((with_reducible refine gate_callee (f := 28) rfl ?_); refine goesL_ (some 35) rfl rfl Try.func28 (by kernel_rfl) rfl #[.agg #[.int .i64 t513, .string t514], .agg #[.int .i64 t515, .string t516]] rfl (by (try simp only [List.map_toArray, List.map_cons, List.map_nil]); first | done | rfl | (simp only [List.length_drop, List.length_take]; rfl)) ?_; (with_reducible refine (impl_TableXor.calls k t513 t514 t515 t516 t523 t524 t525 _ A6.out).mono ?_); rintro e w22 ⟨rfl, hb⟩; refine ⟨_, rfl, ?_⟩; have n0_ := Aside0.mk (blk_below (g := gb517) (o := .cells #[.int .i64 t513, .string t514] 26 (0, 0)) (by (with_reducible repeat (first | refine blk_drewN ?_ _ | refine blk_drew ?_ | refine blk_alloc ?_ _)); refine blk_far ?_ NB517_522.out _; (with_reducible repeat (first | refine blk_drewN ?_ _ | refine blk_drew ?_ | refine blk_alloc ?_ _)); refine blk_far ?_ NB517_522.out _; (with_reducible repeat (first | refine blk_drewN ?_ _ | refine blk_drew ?_ | refine blk_alloc ?_ _)); exact BK517.out) hb); have n1_ := Aside0.mk (blk_below (g := gb518) (o := .cells #[.int .i64 t515, .string t516] 26 (0, 0)) (by (with_reducible repeat (first | refine blk_drewN ?_ _ | refine blk_drew ?_ | refine blk_alloc ?_ _)); refine blk_far ?_ NB518_522.out _; (with_reducible repeat (first | refine blk_drewN ?_ _ | refine blk_drew ?_ | refine blk_alloc ?_ _)); refine blk_far ?_ NB518_522.out _; (with_reducible repeat (first | refine blk_drewN ?_ _ | refine blk_drew ?_ | refine blk_alloc ?_ _)); exact BK518.out) hb); have n2_ := Aside0.mk (blk_below (g := gb522) (o := .cells #[.int .i64 t519, .string t520] 26 (0, 0)) (by (with_reducible repeat (first | refine blk_drewN ?_ _ | refine blk_drew ?_ | refine blk_alloc ?_ _)); refine blk_put (cs := #[.int .i64 t519, .string (⟨#[]⟩ : ByteArray)]) ?_ 1 _ rfl; (with_reducible repeat (first | refine blk_drewN ?_ _ | refine blk_drew ?_ | refine blk_alloc ?_ _)); refine blk_put (cs := #[.int .i64 0, .string (⟨#[]⟩ : ByteArray)]) ?_ 0 _ rfl; (with_reducible repeat (first | refine blk_drewN ?_ _ | refine blk_drew ?_ | refine blk_alloc ?_ _)); exact BK522.out) hb); have n3_ := bs HB hb; clear BK517; clear BK518; clear BK522; clear HB; have BK517 := n0_; have BK518 := n1_; have BK522 := n2_; have HB := n3_; clear n0_ n1_ n2_ n3_; (try clear hb); (try clear hb2); (try clear hk); (try clear hi)) | ((with_reducible refine gate_dst (N := 7) rfl ?_); refine box_event ?hg (N := 7) ?hd (cs := #[.int .i64 0, .string (⟨#[]⟩ : ByteArray)]) (t := 26) ?hr ?_; (case hd => rfl); (case hg => rfl); (case hr => first | (go_simp; done) | (go_simp; rfl)); intro gb526 hg w23 hbox hb; have n0_ := bb BK517 hb; have n1_ := bb BK518 hb; have n2_ := bb BK522 hb; have n3_ := bs HB hb; have n4_ := Aside0.mk (hbox); have n5_ := bz hg HB; have n6_ := bz hg HB; have n7_ := nl hg BK517; have n8_ := ng hg BK517; have n9_ := nl hg BK518; have n10_ := ng hg BK518; have n11_ := nl hg BK522; have n12_ := ng hg BK522; clear BK517; clear BK518; clear BK522; clear HB; have BK517 := n0_; have BK518 := n1_; have BK522 := n2_; have HB := n3_; have BK526 := n4_; have GW526 := n5_; have GE526 := n6_; have NB517_526 := n7_; have NB526_517 := n8_; have NB518_526 := n9_; have NB526_518 := n10_; have NB522_526 := n11_; have NB526_522 := n12_; clear n0_ n1_ n2_ n3_ n4_ n5_ n6_ n7_ n8_ n9_ n10_ n11_ n12_; clear hb hbox hg; have hnb24 := NB526_517.out; have hnc24 := NB517_526.out; have hnb25 := NB526_518.out; have hnc25 := NB518_526.out; have hnb26 := NB526_522.out; have hnc26 := NB522_526.out; have hcz27_0 : w23.cell? ⟨gb526, 0, none⟩ = some (.int .i64 0) := (blk_cell BK526.out 0).trans rfl; have hcz27_1 : w23.cell? ⟨gb526, 1, none⟩ = some (.string (⟨#[]⟩ : ByteArray)) := (blk_cell BK526.out 1).trans rfl; have hfz27_0 := blk_frozen BK526.out 0; have hfz27_1 := blk_frozen BK526.out 1; have hcz28_0 : w23.cell? ⟨gb517, 0, none⟩ = some (.int .i64 t513) := (blk_cell BK517.out 0).trans rfl; have hcz28_1 : w23.cell? ⟨gb517, 1, none⟩ = some (.string t514) := (blk_cell BK517.out 1).trans rfl; have hfz28_0 := blk_frozen BK517.out 0; have hfz28_1 := blk_frozen BK517.out 1; have hcz29_0 : w23.cell? ⟨gb518, 0, none⟩ = some (.int .i64 t515) := (blk_cell BK518.out 0).trans rfl; have hcz29_1 : w23.cell? ⟨gb518, 1, none⟩ = some (.string t516) := (blk_cell BK518.out 1).trans rfl; have hfz29_0 := blk_frozen BK518.out 0; have hfz29_1 := blk_frozen BK518.out 1) | ((with_reducible refine gate_callee (f := 29) rfl ?_); refine goesL_ (some 41) rfl rfl Try.func29 (by kernel_rfl) rfl #[.agg #[.int .i64 t513, .string t514], .agg #[.int .i64 t515, .string t516]] rfl (by (try simp only [List.map_toArray, List.map_cons, List.map_nil]); first | done | rfl | (simp only [List.length_drop, List.length_take]; rfl)) ?_; (with_reducible refine (spec_TableAnd.calls k t513 t514 t515 t516 t527 t528 t529 _ A7.out).mono ?_); rintro e w30 ⟨rfl, hb⟩; refine ⟨_, rfl, ?_⟩; have n0_ := Aside0.mk (blk_below (g := gb517) (o := .cells #[.int .i64 t513, .string t514] 26 (0, 0)) (by (with_reducible repeat (first | refine blk_drewN ?_ _ | refine blk_drew ?_ | refine blk_alloc ?_ _)); refine blk_far ?_ NB517_526.out _; (with_reducible repeat (first | refine blk_drewN ?_ _ | refine blk_drew ?_ | refine blk_alloc ?_ _)); refine blk_far ?_ NB517_526.out _; (with_reducible repeat (first | refine blk_drewN ?_ _ | refine blk_drew ?_ | refine blk_alloc ?_ _)); exact BK517.out) hb); have n1_ := Aside0.mk (blk_below (g := gb518) (o := .cells #[.int .i64 t515, .string t516] 26 (0, 0)) (by (with_reducible repeat (first | refine blk_drewN ?_ _ | refine blk_drew ?_ | refine blk_alloc ?_ _)); refine blk_far ?_ NB518_526.out _; (with_reducible repeat (first | refine blk_drewN ?_ _ | refine blk_drew ?_ | refine blk_alloc ?_ _)); refine blk_far ?_ NB518_526.out _; (with_reducible repeat (first | refine blk_drewN ?_ _ | refine blk_drew ?_ | refine blk_alloc ?_ _)); exact BK518.out) hb); have n2_ := Aside0.mk (blk_below (g := gb522) (o := .cells #[.int .i64 t519, .string t520] 26 (0, 0)) (by (with_reducible repeat (first | refine blk_drewN ?_ _ | refine blk_drew ?_ | refine blk_alloc ?_ _)); refine blk_far ?_ NB522_526.out _; (with_reducible repeat (first | refine blk_drewN ?_ _ | refine blk_drew ?_ | refine blk_alloc ?_ _)); refine blk_far ?_ NB522_526.out _; (with_reducible repeat (first | refine blk_drewN ?_ _ | refine blk_drew ?_ | refine blk_alloc ?_ _)); exact BK522.out) hb); have n3_ := Aside0.mk (blk_below (g := gb526) (o := .cells #[.int .i64 t523, .string t524] 26 (0, 0)) (by (with_reducible repeat (first | refine blk_drewN ?_ _ | refine blk_drew ?_ | refine blk_alloc ?_ _)); refine blk_put (cs := #[.int .i64 t523, .string (⟨#[]⟩ : ByteArray)]) ?_ 1 _ rfl; (with_reducible repeat (first | refine blk_drewN ?_ _ | refine blk_drew ?_ | refine blk_alloc ?_ _)); refine blk_put (cs := #[.int .i64 0, .string (⟨#[]⟩ : ByteArray)]) ?_ 0 _ rfl; (with_reducible repeat (first | refine blk_drewN ?_ _ | refine blk_drew ?_ | refine blk_alloc ?_ _)); exact BK526.out) hb); have n4_ := bs HB hb; clear BK517; clear BK518; clear BK522; clear BK526; clear HB; have BK517 := n0_; have BK518 := n1_; have BK522 := n2_; have BK526 := n3_; have HB := n4_; clear n0_ n1_ n2_ n3_ n4_; (try clear hb); (try clear hb2); (try clear hk); (try clear hi)) | ((with_reducible refine gate_dst (N := 9) rfl ?_); refine box_event ?hg (N := 9) ?hd (cs := #[.int .i64 0, .string (⟨#[]⟩ : ByteArray)]) (t := 26) ?hr ?_; (case hd => rfl); (case hg => rfl); (case hr => first | (go_simp; done) | (go_simp; rfl)); intro gb530 hg w31 hbox hb; have n0_ := bb BK517 hb; have n1_ := bb BK518 hb; have n2_ := bb BK522 hb; have n3_ := bb BK526 hb; have n4_ := bs HB hb; have n5_ := Aside0.mk (hbox); have n6_ := bz hg HB; have n7_ := bz hg HB; have n8_ := nl hg BK517; have n9_ := ng hg BK517; have n10_ := nl hg BK518; have n11_ := ng hg BK518; have n12_ := nl hg BK522; have n13_ := ng hg BK522; have n14_ := nl hg BK526; have n15_ := ng hg BK526; clear BK517; clear BK518; clear BK522; clear BK526; clear HB; have BK517 := n0_; have BK518 := n1_; have BK522 := n2_; have BK526 := n3_; have HB := n4_; have BK530 := n5_; have GW530 := n6_; have GE530 := n7_; have NB517_530 := n8_; have NB530_517 := n9_; have NB518_530 := n10_; have NB530_518 := n11_; have NB522_530 := n12_; have NB530_522 := n13_; have NB526_530 := n14_; have NB530_526 := n15_; clear n0_ n1_ n2_ n3_ n4_ n5_ n6_ n7_ n8_ n9_ n10_ n11_ n12_ n13_ n14_ n15_; clear hb hbox hg; have hnb32 := NB530_517.out; have hnc32 := NB517_530.out; have hnb33 := NB530_518.out; have hnc33 := NB518_530.out; have hnb34 := NB530_522.out; have hnc34 := NB522_530.out; have hnb35 := NB530_526.out; have hnc35 := NB526_530.out; have hcz36_0 : w31.cell? ⟨gb530, 0, none⟩ = some (.int .i64 0) := (blk_cell BK530.out 0).trans rfl; have hcz36_1 : w31.cell? ⟨gb530, 1, none⟩ = some (.string (⟨#[]⟩ : ByteArray)) := (blk_cell BK530.out 1).trans rfl; have hfz36_0 := blk_frozen BK530.out 0; have hfz36_1 := blk_frozen BK530.out 1))
  (try simp only [Act.put, List.setIfInBounds_toArray, List.set_cons_zero, List.set_cons_succ])
  go_cut [51] (fun v51 wc => ∃ (kq : Nat) (x51_7 : Bool), v51 = .bool x51_7 ∧ Aside0 (laws_FnLogic.j0 kq t529 x51_7 t513 t514 t515 t516 t519 t520 t523 t524 = some r) ∧ Aside0 (kq ≤ k) ∧ Aside0 (wc.heap[gb517]? = some (.cells #[.int .i64 t513, .string t514] 26 (0, 0))) ∧ Aside0 (wc.heap[gb518]? = some (.cells #[.int .i64 t515, .string t516] 26 (0, 0))) ∧ Aside0 (wc.heap[gb522]? = some (.cells #[.int .i64 t519, .string t520] 26 (0, 0))) ∧ Aside0 (wc.heap[gb526]? = some (.cells #[.int .i64 t523, .string t524] 26 (0, 0))) ∧ Aside0 (wc.heap[gb530]? = some (.cells #[.int .i64 t527, .string t528] 26 (0, 0))) ∧ Aside0 (Below w.heap.size w wc))
  case first =>
   have H := HC8.out
   clear HC8
   by_cases c37 : (t521 != t529) = true
   ·rw [if_pos c37] at H
    have c37b0 : (t521 != t529) = true := c37
    (try (have c37b1 : decide (t521 = t529) = false := by simpa using c37))
    (try (have c37b2 : (t521 == t529) = false := by simpa using c37))
    (try (have c37b3 : ¬ (t521 = t529) := by simpa using c37))
    clear c37
    (first | rw [c37b0] | (simp only [i64_w, i32_w]; rw [c37b0]) | skip)
    have H' := Aside0.mk H
    clear H
    go_wp2
    go_meet
    case rel => exact ⟨_, (true), (by first | rfl | (simp; done) | (simp [*]; done)), H', ⟨by first | omega | exact Nat.le_refl _⟩, ⟨by (with_reducible repeat (first | refine blk_drewN ?_ _ | refine blk_drew ?_ | refine blk_alloc ?_ _)); refine blk_far ?_ NB517_530.out _; (with_reducible repeat (first | refine blk_drewN ?_ _ | refine blk_drew ?_ | refine blk_alloc ?_ _)); refine blk_far ?_ NB517_530.out _; (with_reducible repeat (first | refine blk_drewN ?_ _ | refine blk_drew ?_ | refine blk_alloc ?_ _)); exact BK517.out⟩, ⟨by (with_reducible repeat (first | refine blk_drewN ?_ _ | refine blk_drew ?_ | refine blk_alloc ?_ _)); refine blk_far ?_ NB518_530.out _; (with_reducible repeat (first | refine blk_drewN ?_ _ | refine blk_drew ?_ | refine blk_alloc ?_ _)); refine blk_far ?_ NB518_530.out _; (with_reducible repeat (first | refine blk_drewN ?_ _ | refine blk_drew ?_ | refine blk_alloc ?_ _)); exact BK518.out⟩, ⟨by (with_reducible repeat (first | refine blk_drewN ?_ _ | refine blk_drew ?_ | refine blk_alloc ?_ _)); refine blk_far ?_ NB522_530.out _; (with_reducible repeat (first | refine blk_drewN ?_ _ | refine blk_drew ?_ | refine blk_alloc ?_ _)); refine blk_far ?_ NB522_530.out _; (with_reducible repeat (first | refine blk_drewN ?_ _ | refine blk_drew ?_ | refine blk_alloc ?_ _)); exact BK522.out⟩, ⟨by (with_reducible repeat (first | refine blk_drewN ?_ _ | refine blk_drew ?_ | refine blk_alloc ?_ _)); refine blk_far ?_ NB526_530.out _; (with_reducible repeat (first | refine blk_drewN ?_ _ | refine blk_drew ?_ | refine blk_alloc ?_ _)); refine blk_far ?_ NB526_530.out _; (with_reducible repeat (first | refine blk_drewN ?_ _ | refine blk_drew ?_ | refine blk_alloc ?_ _)); exact BK526.out⟩, ⟨by (with_reducible repeat (first | refine blk_drewN ?_ _ | refine blk_drew ?_ | refine blk_alloc ?_ _)); refine blk_put (cs := #[.int .i64 t527, .string (⟨#[]⟩ : ByteArray)]) ?_ 1 _ rfl; (with_reducible repeat (first | refine blk_drewN ?_ _ | refine blk_drew ?_ | refine blk_alloc ?_ _)); refine blk_put (cs := #[.int .i64 0, .string (⟨#[]⟩ : ByteArray)]) ?_ 0 _ rfl; (with_reducible repeat (first | refine blk_drewN ?_ _ | refine blk_drew ?_ | refine blk_alloc ?_ _)); exact BK530.out⟩, ⟨by repeat (first | (with_reducible first | exact HB.out | apply below_alloc | apply pw_below_drewN | apply below_drew1 | refine below_set ?_ GE517.out | refine below_set ?_ GE518.out | refine below_set ?_ GE522.out | refine below_set ?_ GE526.out | refine below_set ?_ GE530.out) | exact HB.out)⟩⟩
   ·rw [if_neg c37] at H
    have c37b0 : (t521 != t529) = false := by simpa using c37
    (try (have c37b1 : decide (t521 = t529) = true := by simpa using c37))
    (try (have c37b2 : (t521 == t529) = true := by simpa using c37))
    clear c37
    (first | rw [c37b0] | (simp only [i64_w, i32_w]; rw [c37b0]) | skip)
    have H' := Aside0.mk H
    clear H
    go_wp2
    go_meet
    case rel => exact ⟨_, ((t525 != t529)), (by first | rfl | (simp; done) | (simp [*]; done)), H', ⟨by first | omega | exact Nat.le_refl _⟩, ⟨by (with_reducible repeat (first | refine blk_drewN ?_ _ | refine blk_drew ?_ | refine blk_alloc ?_ _)); refine blk_far ?_ NB517_530.out _; (with_reducible repeat (first | refine blk_drewN ?_ _ | refine blk_drew ?_ | refine blk_alloc ?_ _)); refine blk_far ?_ NB517_530.out _; (with_reducible repeat (first | refine blk_drewN ?_ _ | refine blk_drew ?_ | refine blk_alloc ?_ _)); exact BK517.out⟩, ⟨by (with_reducible repeat (first | refine blk_drewN ?_ _ | refine blk_drew ?_ | refine blk_alloc ?_ _)); refine blk_far ?_ NB518_530.out _; (with_reducible repeat (first | refine blk_drewN ?_ _ | refine blk_drew ?_ | refine blk_alloc ?_ _)); refine blk_far ?_ NB518_530.out _; (with_reducible repeat (first | refine blk_drewN ?_ _ | refine blk_drew ?_ | refine blk_alloc ?_ _)); exact BK518.out⟩, ⟨by (with_reducible repeat (first | refine blk_drewN ?_ _ | refine blk_drew ?_ | refine blk_alloc ?_ _)); refine blk_far ?_ NB522_530.out _; (with_reducible repeat (first | refine blk_drewN ?_ _ | refine blk_drew ?_ | refine blk_alloc ?_ _)); refine blk_far ?_ NB522_530.out _; (with_reducible repeat (first | refine blk_drewN ?_ _ | refine blk_drew ?_ | refine blk_alloc ?_ _)); exact BK522.out⟩, ⟨by (with_reducible repeat (first | refine blk_drewN ?_ _ | refine blk_drew ?_ | refine blk_alloc ?_ _)); refine blk_far ?_ NB526_530.out _; (with_reducible repeat (first | refine blk_drewN ?_ _ | refine blk_drew ?_ | refine blk_alloc ?_ _)); refine blk_far ?_ NB526_530.out _; (with_reducible repeat (first | refine blk_drewN ?_ _ | refine blk_drew ?_ | refine blk_alloc ?_ _)); exact BK526.out⟩, ⟨by (with_reducible repeat (first | refine blk_drewN ?_ _ | refine blk_drew ?_ | refine blk_alloc ?_ _)); refine blk_put (cs := #[.int .i64 t527, .string (⟨#[]⟩ : ByteArray)]) ?_ 1 _ rfl; (with_reducible repeat (first | refine blk_drewN ?_ _ | refine blk_drew ?_ | refine blk_alloc ?_ _)); refine blk_put (cs := #[.int .i64 0, .string (⟨#[]⟩ : ByteArray)]) ?_ 0 _ rfl; (with_reducible repeat (first | refine blk_drewN ?_ _ | refine blk_drew ?_ | refine blk_alloc ?_ _)); exact BK530.out⟩, ⟨by repeat (first | (with_reducible first | exact HB.out | apply below_alloc | apply pw_below_drewN | apply below_drew1 | refine below_set ?_ GE517.out | refine below_set ?_ GE518.out | refine below_set ?_ GE522.out | refine below_set ?_ GE526.out | refine below_set ?_ GE530.out) | exact HB.out)⟩⟩
  case rest =>
   clear HC8
   try clear c1
   try clear c2
   try clear p2
   try clear c3
   try clear c6
   try clear c11
   try clear c12
   try clear c17
   try clear c18
   try clear c24
   try clear c25
   try clear c26
   try clear c27
   try clear c28
   try clear c29
   try clear c32
   try clear c33
   try clear c34
   try clear c35
   try clear c37
   try clear c37b0
   try clear c37b1
   try clear c37b2
   try clear hcz13_0
   try clear hcz13_1
   try clear hcz14_0
   try clear hcz14_1
   try clear hcz19_0
   try clear hcz19_1
   try clear hcz20_0
   try clear hcz20_1
   try clear hcz21_0
   try clear hcz21_1
   try clear hcz27_0
   try clear hcz27_1
   try clear hcz28_0
   try clear hcz28_1
   try clear hcz29_0
   try clear hcz29_1
   try clear hcz36_0
   try clear hcz36_1
   try clear hfz13_0
   try clear hfz13_1
   try clear hfz14_0
   try clear hfz14_1
   try clear hfz19_0
   try clear hfz19_1
   try clear hfz20_0
   try clear hfz20_1
   try clear hfz21_0
   try clear hfz21_1
   try clear hfz27_0
   try clear hfz27_1
   try clear hfz28_0
   try clear hfz28_1
   try clear hfz29_0
   try clear hfz29_1
   try clear hfz36_0
   try clear hfz36_1
   obtain ⟨kq, x51_7, rfl, HA, HJ7, BK517, BK518, BK522, BK526, BK530, HB⟩ := hcut
   cases kq with
      | zero => exact absurd HA.out (by simp [laws_FnLogic.j0])
      | succ kj7 =>
    have H := HA.out
    clear HA
    simp only [laws_FnLogic.j0] at H
    by_cases c38 : x51_7 = true
    ·subst c38
     have H1 : (some false) = some r := by rw [if_pos rfl] at H; exact H
     clear H
     have H := H1
     clear H1
     exact absurd ((Option.some.inj H).trans HT.out) (by decide)
    ·replace c38 := Bool.eq_false_iff.mpr c38
     subst c38
     have H1 : (if t529 = true then ((impl_TableXor.f kj7 t523 t524 t515 t516).bind fun bt531 => ((impl_TableNot.f kj7 t515 t516).bind fun bt535 => ((impl_TableAnd.f kj7 t513 t514 bt535.1 bt535.2).bind fun bt537 => ((impl_TableNot.f kj7 t513 t514).bind fun bt541 => ((impl_TableAnd.f kj7 bt541.1 bt541.2 t515 t516).bind fun bt543 => ((impl_TableXor.f kj7 bt537.1 bt537.2.1 bt543.1 bt543.2.1).bind fun bt547 => (if (bt531.1 == t513 && (bt531.2.1.toList == t514.toList)) = true then (if (bt547.1 == t523 && (bt547.2.1.toList == t524.toList)) = true then ((impl_TableNot.f kj7 t513 t514).bind fun bt551 => ((impl_TableNot.f kj7 bt551.1 bt551.2).bind fun bt553 => (if (bt553.1 == t513 && (bt553.2.toList == t514.toList)) = true then ((impl_TableKey.f kj7 t513 t514).bind fun t555 => ((spec_TableKey.f kj7 t513 t514).bind fun t556 => (if t555.toList = t556.toList then ((impl_TableKey.f kj7 t513 t514).bind fun t557 => ((impl_TableKey.f kj7 t515 t516).bind fun t558 => (if ((t557.toList == t558.toList) == (t513 == t515 && (t514.toList == t516.toList))) = true then ((impl_TableCount.f kj7 t519 t520).bind fun t559 => ((impl_TableCount.f kj7 bt537.1 bt537.2.1).bind fun t560 => ((impl_TableCount.f kj7 t513 t514).bind fun t561 => (if (wrap64 (t559 + t560)) = t561 then ((impl_TableCount.f kj7 t523 t524).bind fun t562 => ((impl_TableCount.f kj7 bt537.1 bt537.2.1).bind fun t563 => ((impl_TableCount.f kj7 bt543.1 bt543.2.1).bind fun t564 => (some (t562 == (wrap64 (t563 + t564))))))) else (some false))))) else (some false)))) else (some false)))) else (some false)))) else (some false)) else (some false)))))))) else (if t520.toList = ([] : List UInt8) then (some (t524.toList == ([] : List UInt8))) else (some false))) = some r := by rw [if_neg (show ¬ (false = true) by decide)] at H; exact H
     clear H
     have H := H1
     clear H1
     by_cases c39 : t529 = true
     ·subst c39
      have H1 : ((impl_TableXor.f kj7 t523 t524 t515 t516).bind fun bt531 => ((impl_TableNot.f kj7 t515 t516).bind fun bt535 => ((impl_TableAnd.f kj7 t513 t514 bt535.1 bt535.2).bind fun bt537 => ((impl_TableNot.f kj7 t513 t514).bind fun bt541 => ((impl_TableAnd.f kj7 bt541.1 bt541.2 t515 t516).bind fun bt543 => ((impl_TableXor.f kj7 bt537.1 bt537.2.1 bt543.1 bt543.2.1).bind fun bt547 => (if (bt531.1 == t513 && (bt531.2.1.toList == t514.toList)) = true then (if (bt547.1 == t523 && (bt547.2.1.toList == t524.toList)) = true then ((impl_TableNot.f kj7 t513 t514).bind fun bt551 => ((impl_TableNot.f kj7 bt551.1 bt551.2).bind fun bt553 => (if (bt553.1 == t513 && (bt553.2.toList == t514.toList)) = true then ((impl_TableKey.f kj7 t513 t514).bind fun t555 => ((spec_TableKey.f kj7 t513 t514).bind fun t556 => (if t555.toList = t556.toList then ((impl_TableKey.f kj7 t513 t514).bind fun t557 => ((impl_TableKey.f kj7 t515 t516).bind fun t558 => (if ((t557.toList == t558.toList) == (t513 == t515 && (t514.toList == t516.toList))) = true then ((impl_TableCount.f kj7 t519 t520).bind fun t559 => ((impl_TableCount.f kj7 bt537.1 bt537.2.1).bind fun t560 => ((impl_TableCount.f kj7 t513 t514).bind fun t561 => (if (wrap64 (t559 + t560)) = t561 then ((impl_TableCount.f kj7 t523 t524).bind fun t562 => ((impl_TableCount.f kj7 bt537.1 bt537.2.1).bind fun t563 => ((impl_TableCount.f kj7 bt543.1 bt543.2.1).bind fun t564 => (some (t562 == (wrap64 (t563 + t564))))))) else (some false))))) else (some false)))) else (some false)))) else (some false)))) else (some false)) else (some false)))))))) = some r := by rw [if_pos rfl] at H; exact H
      clear H
      have H := H1
      clear H1
      replace H := Option.bind_eq_some_iff.mp H
      obtain ⟨⟨t531, t532, t533⟩, A400, H⟩ := H
      replace H : ((impl_TableNot.f kj7 t515 t516).bind fun bt535 => ((impl_TableAnd.f kj7 t513 t514 bt535.1 bt535.2).bind fun bt537 => ((impl_TableNot.f kj7 t513 t514).bind fun bt541 => ((impl_TableAnd.f kj7 bt541.1 bt541.2 t515 t516).bind fun bt543 => ((impl_TableXor.f kj7 bt537.1 bt537.2.1 bt543.1 bt543.2.1).bind fun bt547 => (if (t531 == t513 && (t532.toList == t514.toList)) = true then (if (bt547.1 == t523 && (bt547.2.1.toList == t524.toList)) = true then ((impl_TableNot.f kj7 t513 t514).bind fun bt551 => ((impl_TableNot.f kj7 bt551.1 bt551.2).bind fun bt553 => (if (bt553.1 == t513 && (bt553.2.toList == t514.toList)) = true then ((impl_TableKey.f kj7 t513 t514).bind fun t555 => ((spec_TableKey.f kj7 t513 t514).bind fun t556 => (if t555.toList = t556.toList then ((impl_TableKey.f kj7 t513 t514).bind fun t557 => ((impl_TableKey.f kj7 t515 t516).bind fun t558 => (if ((t557.toList == t558.toList) == (t513 == t515 && (t514.toList == t516.toList))) = true then ((impl_TableCount.f kj7 t519 t520).bind fun t559 => ((impl_TableCount.f kj7 bt537.1 bt537.2.1).bind fun t560 => ((impl_TableCount.f kj7 t513 t514).bind fun t561 => (if (wrap64 (t559 + t560)) = t561 then ((impl_TableCount.f kj7 t523 t524).bind fun t562 => ((impl_TableCount.f kj7 bt537.1 bt537.2.1).bind fun t563 => ((impl_TableCount.f kj7 bt543.1 bt543.2.1).bind fun t564 => (some (t562 == (wrap64 (t563 + t564))))))) else (some false))))) else (some false)))) else (some false)))) else (some false)))) else (some false)) else (some false))))))) = some r := H
      have A40 := Aside0.mk A400
      clear A400
      replace H := Option.bind_eq_some_iff.mp H
      obtain ⟨⟨t535, t536⟩, A410, H⟩ := H
      replace H : ((impl_TableAnd.f kj7 t513 t514 t535 t536).bind fun bt537 => ((impl_TableNot.f kj7 t513 t514).bind fun bt541 => ((impl_TableAnd.f kj7 bt541.1 bt541.2 t515 t516).bind fun bt543 => ((impl_TableXor.f kj7 bt537.1 bt537.2.1 bt543.1 bt543.2.1).bind fun bt547 => (if (t531 == t513 && (t532.toList == t514.toList)) = true then (if (bt547.1 == t523 && (bt547.2.1.toList == t524.toList)) = true then ((impl_TableNot.f kj7 t513 t514).bind fun bt551 => ((impl_TableNot.f kj7 bt551.1 bt551.2).bind fun bt553 => (if (bt553.1 == t513 && (bt553.2.toList == t514.toList)) = true then ((impl_TableKey.f kj7 t513 t514).bind fun t555 => ((spec_TableKey.f kj7 t513 t514).bind fun t556 => (if t555.toList = t556.toList then ((impl_TableKey.f kj7 t513 t514).bind fun t557 => ((impl_TableKey.f kj7 t515 t516).bind fun t558 => (if ((t557.toList == t558.toList) == (t513 == t515 && (t514.toList == t516.toList))) = true then ((impl_TableCount.f kj7 t519 t520).bind fun t559 => ((impl_TableCount.f kj7 bt537.1 bt537.2.1).bind fun t560 => ((impl_TableCount.f kj7 t513 t514).bind fun t561 => (if (wrap64 (t559 + t560)) = t561 then ((impl_TableCount.f kj7 t523 t524).bind fun t562 => ((impl_TableCount.f kj7 bt537.1 bt537.2.1).bind fun t563 => ((impl_TableCount.f kj7 bt543.1 bt543.2.1).bind fun t564 => (some (t562 == (wrap64 (t563 + t564))))))) else (some false))))) else (some false)))) else (some false)))) else (some false)))) else (some false)) else (some false)))))) = some r := H
      have A41 := Aside0.mk A410
      clear A410
      replace H := Option.bind_eq_some_iff.mp H
      obtain ⟨⟨t537, t538, t539⟩, A420, H⟩ := H
      replace H : ((impl_TableNot.f kj7 t513 t514).bind fun bt541 => ((impl_TableAnd.f kj7 bt541.1 bt541.2 t515 t516).bind fun bt543 => ((impl_TableXor.f kj7 t537 t538 bt543.1 bt543.2.1).bind fun bt547 => (if (t531 == t513 && (t532.toList == t514.toList)) = true then (if (bt547.1 == t523 && (bt547.2.1.toList == t524.toList)) = true then ((impl_TableNot.f kj7 t513 t514).bind fun bt551 => ((impl_TableNot.f kj7 bt551.1 bt551.2).bind fun bt553 => (if (bt553.1 == t513 && (bt553.2.toList == t514.toList)) = true then ((impl_TableKey.f kj7 t513 t514).bind fun t555 => ((spec_TableKey.f kj7 t513 t514).bind fun t556 => (if t555.toList = t556.toList then ((impl_TableKey.f kj7 t513 t514).bind fun t557 => ((impl_TableKey.f kj7 t515 t516).bind fun t558 => (if ((t557.toList == t558.toList) == (t513 == t515 && (t514.toList == t516.toList))) = true then ((impl_TableCount.f kj7 t519 t520).bind fun t559 => ((impl_TableCount.f kj7 t537 t538).bind fun t560 => ((impl_TableCount.f kj7 t513 t514).bind fun t561 => (if (wrap64 (t559 + t560)) = t561 then ((impl_TableCount.f kj7 t523 t524).bind fun t562 => ((impl_TableCount.f kj7 t537 t538).bind fun t563 => ((impl_TableCount.f kj7 bt543.1 bt543.2.1).bind fun t564 => (some (t562 == (wrap64 (t563 + t564))))))) else (some false))))) else (some false)))) else (some false)))) else (some false)))) else (some false)) else (some false))))) = some r := H
      have A42 := Aside0.mk A420
      clear A420
      replace H := Option.bind_eq_some_iff.mp H
      obtain ⟨⟨t541, t542⟩, A430, H⟩ := H
      replace H : ((impl_TableAnd.f kj7 t541 t542 t515 t516).bind fun bt543 => ((impl_TableXor.f kj7 t537 t538 bt543.1 bt543.2.1).bind fun bt547 => (if (t531 == t513 && (t532.toList == t514.toList)) = true then (if (bt547.1 == t523 && (bt547.2.1.toList == t524.toList)) = true then ((impl_TableNot.f kj7 t513 t514).bind fun bt551 => ((impl_TableNot.f kj7 bt551.1 bt551.2).bind fun bt553 => (if (bt553.1 == t513 && (bt553.2.toList == t514.toList)) = true then ((impl_TableKey.f kj7 t513 t514).bind fun t555 => ((spec_TableKey.f kj7 t513 t514).bind fun t556 => (if t555.toList = t556.toList then ((impl_TableKey.f kj7 t513 t514).bind fun t557 => ((impl_TableKey.f kj7 t515 t516).bind fun t558 => (if ((t557.toList == t558.toList) == (t513 == t515 && (t514.toList == t516.toList))) = true then ((impl_TableCount.f kj7 t519 t520).bind fun t559 => ((impl_TableCount.f kj7 t537 t538).bind fun t560 => ((impl_TableCount.f kj7 t513 t514).bind fun t561 => (if (wrap64 (t559 + t560)) = t561 then ((impl_TableCount.f kj7 t523 t524).bind fun t562 => ((impl_TableCount.f kj7 t537 t538).bind fun t563 => ((impl_TableCount.f kj7 bt543.1 bt543.2.1).bind fun t564 => (some (t562 == (wrap64 (t563 + t564))))))) else (some false))))) else (some false)))) else (some false)))) else (some false)))) else (some false)) else (some false)))) = some r := H
      have A43 := Aside0.mk A430
      clear A430
      replace H := Option.bind_eq_some_iff.mp H
      obtain ⟨⟨t543, t544, t545⟩, A440, H⟩ := H
      replace H : ((impl_TableXor.f kj7 t537 t538 t543 t544).bind fun bt547 => (if (t531 == t513 && (t532.toList == t514.toList)) = true then (if (bt547.1 == t523 && (bt547.2.1.toList == t524.toList)) = true then ((impl_TableNot.f kj7 t513 t514).bind fun bt551 => ((impl_TableNot.f kj7 bt551.1 bt551.2).bind fun bt553 => (if (bt553.1 == t513 && (bt553.2.toList == t514.toList)) = true then ((impl_TableKey.f kj7 t513 t514).bind fun t555 => ((spec_TableKey.f kj7 t513 t514).bind fun t556 => (if t555.toList = t556.toList then ((impl_TableKey.f kj7 t513 t514).bind fun t557 => ((impl_TableKey.f kj7 t515 t516).bind fun t558 => (if ((t557.toList == t558.toList) == (t513 == t515 && (t514.toList == t516.toList))) = true then ((impl_TableCount.f kj7 t519 t520).bind fun t559 => ((impl_TableCount.f kj7 t537 t538).bind fun t560 => ((impl_TableCount.f kj7 t513 t514).bind fun t561 => (if (wrap64 (t559 + t560)) = t561 then ((impl_TableCount.f kj7 t523 t524).bind fun t562 => ((impl_TableCount.f kj7 t537 t538).bind fun t563 => ((impl_TableCount.f kj7 t543 t544).bind fun t564 => (some (t562 == (wrap64 (t563 + t564))))))) else (some false))))) else (some false)))) else (some false)))) else (some false)))) else (some false)) else (some false))) = some r := H
      have A44 := Aside0.mk A440
      clear A440
      replace H := Option.bind_eq_some_iff.mp H
      obtain ⟨⟨t547, t548, t549⟩, A450, H⟩ := H
      replace H : (if (t531 == t513 && (t532.toList == t514.toList)) = true then (if (t547 == t523 && (t548.toList == t524.toList)) = true then ((impl_TableNot.f kj7 t513 t514).bind fun bt551 => ((impl_TableNot.f kj7 bt551.1 bt551.2).bind fun bt553 => (if (bt553.1 == t513 && (bt553.2.toList == t514.toList)) = true then ((impl_TableKey.f kj7 t513 t514).bind fun t555 => ((spec_TableKey.f kj7 t513 t514).bind fun t556 => (if t555.toList = t556.toList then ((impl_TableKey.f kj7 t513 t514).bind fun t557 => ((impl_TableKey.f kj7 t515 t516).bind fun t558 => (if ((t557.toList == t558.toList) == (t513 == t515 && (t514.toList == t516.toList))) = true then ((impl_TableCount.f kj7 t519 t520).bind fun t559 => ((impl_TableCount.f kj7 t537 t538).bind fun t560 => ((impl_TableCount.f kj7 t513 t514).bind fun t561 => (if (wrap64 (t559 + t560)) = t561 then ((impl_TableCount.f kj7 t523 t524).bind fun t562 => ((impl_TableCount.f kj7 t537 t538).bind fun t563 => ((impl_TableCount.f kj7 t543 t544).bind fun t564 => (some (t562 == (wrap64 (t563 + t564))))))) else (some false))))) else (some false)))) else (some false)))) else (some false)))) else (some false)) else (some false)) = some r := H
      have A45 := Aside0.mk A450
      clear A450
      by_cases c46 : (t531 == t513 && (t532.toList == t514.toList)) = true
      ·rw [if_pos c46] at H
       have c46b0 : (t531 == t513 && (t532.toList == t514.toList)) = true := c46
       (try (have c46b1 : decide (t531 = t513 && (t532.toList == t514.toList)) = true := by simpa using c46))
       (try (have c46b2 : (t531 == t513 && (t532.toList == t514.toList)) = true := by simpa using c46))
       clear c46
       by_cases c47 : (t547 == t523 && (t548.toList == t524.toList)) = true
       ·rw [if_pos c47] at H
        have c47b0 : (t547 == t523 && (t548.toList == t524.toList)) = true := c47
        (try (have c47b1 : decide (t547 = t523 && (t548.toList == t524.toList)) = true := by simpa using c47))
        (try (have c47b2 : (t547 == t523 && (t548.toList == t524.toList)) = true := by simpa using c47))
        clear c47
        replace H := Option.bind_eq_some_iff.mp H
        obtain ⟨⟨t551, t552⟩, A480, H⟩ := H
        replace H : ((impl_TableNot.f kj7 t551 t552).bind fun bt553 => (if (bt553.1 == t513 && (bt553.2.toList == t514.toList)) = true then ((impl_TableKey.f kj7 t513 t514).bind fun t555 => ((spec_TableKey.f kj7 t513 t514).bind fun t556 => (if t555.toList = t556.toList then ((impl_TableKey.f kj7 t513 t514).bind fun t557 => ((impl_TableKey.f kj7 t515 t516).bind fun t558 => (if ((t557.toList == t558.toList) == (t513 == t515 && (t514.toList == t516.toList))) = true then ((impl_TableCount.f kj7 t519 t520).bind fun t559 => ((impl_TableCount.f kj7 t537 t538).bind fun t560 => ((impl_TableCount.f kj7 t513 t514).bind fun t561 => (if (wrap64 (t559 + t560)) = t561 then ((impl_TableCount.f kj7 t523 t524).bind fun t562 => ((impl_TableCount.f kj7 t537 t538).bind fun t563 => ((impl_TableCount.f kj7 t543 t544).bind fun t564 => (some (t562 == (wrap64 (t563 + t564))))))) else (some false))))) else (some false)))) else (some false)))) else (some false))) = some r := H
        have A48 := Aside0.mk A480
        clear A480
        replace H := Option.bind_eq_some_iff.mp H
        obtain ⟨⟨t553, t554⟩, A490, H⟩ := H
        replace H : (if (t553 == t513 && (t554.toList == t514.toList)) = true then ((impl_TableKey.f kj7 t513 t514).bind fun t555 => ((spec_TableKey.f kj7 t513 t514).bind fun t556 => (if t555.toList = t556.toList then ((impl_TableKey.f kj7 t513 t514).bind fun t557 => ((impl_TableKey.f kj7 t515 t516).bind fun t558 => (if ((t557.toList == t558.toList) == (t513 == t515 && (t514.toList == t516.toList))) = true then ((impl_TableCount.f kj7 t519 t520).bind fun t559 => ((impl_TableCount.f kj7 t537 t538).bind fun t560 => ((impl_TableCount.f kj7 t513 t514).bind fun t561 => (if (wrap64 (t559 + t560)) = t561 then ((impl_TableCount.f kj7 t523 t524).bind fun t562 => ((impl_TableCount.f kj7 t537 t538).bind fun t563 => ((impl_TableCount.f kj7 t543 t544).bind fun t564 => (some (t562 == (wrap64 (t563 + t564))))))) else (some false))))) else (some false)))) else (some false)))) else (some false)) = some r := H
        have A49 := Aside0.mk A490
        clear A490
        by_cases c50 : (t553 == t513 && (t554.toList == t514.toList)) = true
        ·rw [if_pos c50] at H
         have c50b0 : (t553 == t513 && (t554.toList == t514.toList)) = true := c50
         (try (have c50b1 : decide (t553 = t513 && (t554.toList == t514.toList)) = true := by simpa using c50))
         (try (have c50b2 : (t553 == t513 && (t554.toList == t514.toList)) = true := by simpa using c50))
         clear c50
         replace H := Option.bind_eq_some_iff.mp H
         obtain ⟨t555, A510, H⟩ := H
         replace H : ((spec_TableKey.f kj7 t513 t514).bind fun t556 => (if t555.toList = t556.toList then ((impl_TableKey.f kj7 t513 t514).bind fun t557 => ((impl_TableKey.f kj7 t515 t516).bind fun t558 => (if ((t557.toList == t558.toList) == (t513 == t515 && (t514.toList == t516.toList))) = true then ((impl_TableCount.f kj7 t519 t520).bind fun t559 => ((impl_TableCount.f kj7 t537 t538).bind fun t560 => ((impl_TableCount.f kj7 t513 t514).bind fun t561 => (if (wrap64 (t559 + t560)) = t561 then ((impl_TableCount.f kj7 t523 t524).bind fun t562 => ((impl_TableCount.f kj7 t537 t538).bind fun t563 => ((impl_TableCount.f kj7 t543 t544).bind fun t564 => (some (t562 == (wrap64 (t563 + t564))))))) else (some false))))) else (some false)))) else (some false))) = some r := H
         have A51 := Aside0.mk A510
         clear A510
         replace H := Option.bind_eq_some_iff.mp H
         obtain ⟨t556, A520, H⟩ := H
         replace H : (if t555.toList = t556.toList then ((impl_TableKey.f kj7 t513 t514).bind fun t557 => ((impl_TableKey.f kj7 t515 t516).bind fun t558 => (if ((t557.toList == t558.toList) == (t513 == t515 && (t514.toList == t516.toList))) = true then ((impl_TableCount.f kj7 t519 t520).bind fun t559 => ((impl_TableCount.f kj7 t537 t538).bind fun t560 => ((impl_TableCount.f kj7 t513 t514).bind fun t561 => (if (wrap64 (t559 + t560)) = t561 then ((impl_TableCount.f kj7 t523 t524).bind fun t562 => ((impl_TableCount.f kj7 t537 t538).bind fun t563 => ((impl_TableCount.f kj7 t543 t544).bind fun t564 => (some (t562 == (wrap64 (t563 + t564))))))) else (some false))))) else (some false)))) else (some false)) = some r := H
         have A52 := Aside0.mk A520
         clear A520
         by_cases c53 : t555.toList = t556.toList
         ·rw [if_pos c53] at H
          have c53b0 : (t555.toList == t556.toList) = true := beq_iff_eq.mpr c53
          have c53b1 : (t555.toList != t556.toList) = false := bne_eq_false_iff_eq.mpr c53
          clear c53
          replace H := Option.bind_eq_some_iff.mp H
          obtain ⟨t557, A540, H⟩ := H
          replace H : ((impl_TableKey.f kj7 t515 t516).bind fun t558 => (if ((t557.toList == t558.toList) == (t513 == t515 && (t514.toList == t516.toList))) = true then ((impl_TableCount.f kj7 t519 t520).bind fun t559 => ((impl_TableCount.f kj7 t537 t538).bind fun t560 => ((impl_TableCount.f kj7 t513 t514).bind fun t561 => (if (wrap64 (t559 + t560)) = t561 then ((impl_TableCount.f kj7 t523 t524).bind fun t562 => ((impl_TableCount.f kj7 t537 t538).bind fun t563 => ((impl_TableCount.f kj7 t543 t544).bind fun t564 => (some (t562 == (wrap64 (t563 + t564))))))) else (some false))))) else (some false))) = some r := H
          have A54 := Aside0.mk A540
          clear A540
          replace H := Option.bind_eq_some_iff.mp H
          obtain ⟨t558, A550, H⟩ := H
          replace H : (if ((t557.toList == t558.toList) == (t513 == t515 && (t514.toList == t516.toList))) = true then ((impl_TableCount.f kj7 t519 t520).bind fun t559 => ((impl_TableCount.f kj7 t537 t538).bind fun t560 => ((impl_TableCount.f kj7 t513 t514).bind fun t561 => (if (wrap64 (t559 + t560)) = t561 then ((impl_TableCount.f kj7 t523 t524).bind fun t562 => ((impl_TableCount.f kj7 t537 t538).bind fun t563 => ((impl_TableCount.f kj7 t543 t544).bind fun t564 => (some (t562 == (wrap64 (t563 + t564))))))) else (some false))))) else (some false)) = some r := H
          have A55 := Aside0.mk A550
          clear A550
          by_cases c56 : ((t557.toList == t558.toList) == (t513 == t515 && (t514.toList == t516.toList))) = true
          ·rw [if_pos c56] at H
           have c56b0 : ((t557.toList == t558.toList) == (t513 == t515 && (t514.toList == t516.toList))) = true := c56
           (try (have c56b1 : decide ((t557.toList == t558.toList) = (t513 == t515 && (t514.toList == t516.toList))) = true := by simpa using c56))
           (try (have c56b2 : ((t557.toList == t558.toList) == (t513 == t515 && (t514.toList == t516.toList))) = true := by simpa using c56))
           clear c56
           replace H := Option.bind_eq_some_iff.mp H
           obtain ⟨t559, A570, H⟩ := H
           replace H : ((impl_TableCount.f kj7 t537 t538).bind fun t560 => ((impl_TableCount.f kj7 t513 t514).bind fun t561 => (if (wrap64 (t559 + t560)) = t561 then ((impl_TableCount.f kj7 t523 t524).bind fun t562 => ((impl_TableCount.f kj7 t537 t538).bind fun t563 => ((impl_TableCount.f kj7 t543 t544).bind fun t564 => (some (t562 == (wrap64 (t563 + t564))))))) else (some false)))) = some r := H
           have A57 := Aside0.mk A570
           clear A570
           replace H := Option.bind_eq_some_iff.mp H
           obtain ⟨t560, A580, H⟩ := H
           replace H : ((impl_TableCount.f kj7 t513 t514).bind fun t561 => (if (wrap64 (t559 + t560)) = t561 then ((impl_TableCount.f kj7 t523 t524).bind fun t562 => ((impl_TableCount.f kj7 t537 t538).bind fun t563 => ((impl_TableCount.f kj7 t543 t544).bind fun t564 => (some (t562 == (wrap64 (t563 + t564))))))) else (some false))) = some r := H
           have A58 := Aside0.mk A580
           clear A580
           replace H := Option.bind_eq_some_iff.mp H
           obtain ⟨t561, A590, H⟩ := H
           replace H : (if (wrap64 (t559 + t560)) = t561 then ((impl_TableCount.f kj7 t523 t524).bind fun t562 => ((impl_TableCount.f kj7 t537 t538).bind fun t563 => ((impl_TableCount.f kj7 t543 t544).bind fun t564 => (some (t562 == (wrap64 (t563 + t564))))))) else (some false)) = some r := H
           have A59 := Aside0.mk A590
           clear A590
           by_cases c60 : (wrap64 (t559 + t560)) = t561
           ·rw [if_pos c60] at H
            have c60b0 : ((wrap64 (t559 + t560)) == t561) = true := beq_iff_eq.mpr c60
            have c60b1 : ((wrap64 (t559 + t560)) != t561) = false := bne_eq_false_iff_eq.mpr c60
            clear c60
            replace H := Option.bind_eq_some_iff.mp H
            obtain ⟨t562, A610, H⟩ := H
            replace H : ((impl_TableCount.f kj7 t537 t538).bind fun t563 => ((impl_TableCount.f kj7 t543 t544).bind fun t564 => (some (t562 == (wrap64 (t563 + t564)))))) = some r := H
            have A61 := Aside0.mk A610
            clear A610
            replace H := Option.bind_eq_some_iff.mp H
            obtain ⟨t563, A620, H⟩ := H
            replace H : ((impl_TableCount.f kj7 t543 t544).bind fun t564 => (some (t562 == (wrap64 (t563 + t564))))) = some r := H
            have A62 := Aside0.mk A620
            clear A620
            replace H := Option.bind_eq_some_iff.mp H
            obtain ⟨t564, A630, H⟩ := H
            replace H : (some (t562 == (wrap64 (t563 + t564)))) = some r := H
            have A63 := Aside0.mk A630
            clear A630
            obtain rfl := Option.some.inj H
            have hnb64 := NB526_517.out
            have hnc64 := NB517_526.out
            have hnb65 := NB526_518.out
            have hnc65 := NB518_526.out
            have hnb66 := NB526_522.out
            have hnc66 := NB522_526.out
            have hnb67 := NB526_530.out
            have hnc67 := NB530_526.out
            have hcz68_0 : wc.cell? ⟨gb526, 0, none⟩ = some (.int .i64 t523) := (blk_cell BK526.out 0).trans rfl
            have hcz68_1 : wc.cell? ⟨gb526, 1, none⟩ = some (.string t524) := (blk_cell BK526.out 1).trans rfl
            have hfz68_0 := blk_frozen BK526.out 0
            have hfz68_1 := blk_frozen BK526.out 1
            have hnb69 := NB518_517.out
            have hnc69 := NB517_518.out
            have hnb70 := NB518_522.out
            have hnc70 := NB522_518.out
            have hnb71 := NB518_530.out
            have hnc71 := NB530_518.out
            have hcz72_0 : wc.cell? ⟨gb518, 0, none⟩ = some (.int .i64 t515) := (blk_cell BK518.out 0).trans rfl
            have hcz72_1 : wc.cell? ⟨gb518, 1, none⟩ = some (.string t516) := (blk_cell BK518.out 1).trans rfl
            have hfz72_0 := blk_frozen BK518.out 0
            have hfz72_1 := blk_frozen BK518.out 1
            try go_wp2_with (first | ((with_reducible refine gate_callee (f := 28) rfl ?_); refine goesL_ (some 65) rfl rfl Try.func28 (by kernel_rfl) rfl #[.agg #[.int .i64 t523, .string t524], .agg #[.int .i64 t515, .string t516]] rfl (by (try simp only [List.map_toArray, List.map_cons, List.map_nil]); first | done | rfl | (simp only [List.length_drop, List.length_take]; rfl)) ?_; (with_reducible refine (impl_TableXor.calls kj7 t523 t524 t515 t516 t531 t532 t533 _ A40.out).mono ?_); rintro e w73 ⟨rfl, hb⟩; refine ⟨_, rfl, ?_⟩; have n0_ := bb BK517 hb; have n1_ := bb BK518 hb; have n2_ := bb BK522 hb; have n3_ := bb BK526 hb; have n4_ := bb BK530 hb; have n5_ := bs HB hb; clear BK517; clear BK518; clear BK522; clear BK526; clear BK530; clear HB; have BK517 := n0_; have BK518 := n1_; have BK522 := n2_; have BK526 := n3_; have BK530 := n4_; have HB := n5_; clear n0_ n1_ n2_ n3_ n4_ n5_; (try clear hb); (try clear hb2); (try clear hk); (try clear hi)) | ((with_reducible refine gate_dst (N := 11) rfl ?_); refine box_event ?hg (N := 11) ?hd (cs := #[.int .i64 0, .string (⟨#[]⟩ : ByteArray)]) (t := 26) ?hr ?_; (case hd => rfl); (case hg => rfl); (case hr => first | (go_simp; done) | (go_simp; rfl)); intro gb534 hg w74 hbox hb; have n0_ := bb BK517 hb; have n1_ := bb BK518 hb; have n2_ := bb BK522 hb; have n3_ := bb BK526 hb; have n4_ := bb BK530 hb; have n5_ := bs HB hb; have n6_ := Aside0.mk (hbox); have n7_ := bz hg HB; have n8_ := bz hg HB; have n9_ := nl hg BK517; have n10_ := ng hg BK517; have n11_ := nl hg BK518; have n12_ := ng hg BK518; have n13_ := nl hg BK522; have n14_ := ng hg BK522; have n15_ := nl hg BK526; have n16_ := ng hg BK526; have n17_ := nl hg BK530; have n18_ := ng hg BK530; clear BK517; clear BK518; clear BK522; clear BK526; clear BK530; clear HB; have BK517 := n0_; have BK518 := n1_; have BK522 := n2_; have BK526 := n3_; have BK530 := n4_; have HB := n5_; have BK534 := n6_; have GW534 := n7_; have GE534 := n8_; have NB517_534 := n9_; have NB534_517 := n10_; have NB518_534 := n11_; have NB534_518 := n12_; have NB522_534 := n13_; have NB534_522 := n14_; have NB526_534 := n15_; have NB534_526 := n16_; have NB530_534 := n17_; have NB534_530 := n18_; clear n0_ n1_ n2_ n3_ n4_ n5_ n6_ n7_ n8_ n9_ n10_ n11_ n12_ n13_ n14_ n15_ n16_ n17_ n18_; clear hb hbox hg; have hnb75 := NB534_517.out; have hnc75 := NB517_534.out; have hnb76 := NB534_518.out; have hnc76 := NB518_534.out; have hnb77 := NB534_522.out; have hnc77 := NB522_534.out; have hnb78 := NB534_526.out; have hnc78 := NB526_534.out; have hnb79 := NB534_530.out; have hnc79 := NB530_534.out; have hcz80_0 : w74.cell? ⟨gb534, 0, none⟩ = some (.int .i64 0) := (blk_cell BK534.out 0).trans rfl; have hcz80_1 : w74.cell? ⟨gb534, 1, none⟩ = some (.string (⟨#[]⟩ : ByteArray)) := (blk_cell BK534.out 1).trans rfl; have hfz80_0 := blk_frozen BK534.out 0; have hfz80_1 := blk_frozen BK534.out 1))
            have n0_ : Aside0 (((w74.setCell ⟨gb534, 0, none⟩ (.int .i64 t531)).setCell ⟨gb534, 1, none⟩ (.string t532)).heap[gb517]? = some (.cells #[.int .i64 t513, .string t514] 26 (0, 0))) := ⟨by (with_reducible repeat (first | refine blk_drewN ?_ _ | refine blk_drew ?_ | refine blk_alloc ?_ _)); refine blk_far ?_ NB517_534.out _; (with_reducible repeat (first | refine blk_drewN ?_ _ | refine blk_drew ?_ | refine blk_alloc ?_ _)); refine blk_far ?_ NB517_534.out _; (with_reducible repeat (first | refine blk_drewN ?_ _ | refine blk_drew ?_ | refine blk_alloc ?_ _)); exact BK517.out⟩
            have n1_ : Aside0 (((w74.setCell ⟨gb534, 0, none⟩ (.int .i64 t531)).setCell ⟨gb534, 1, none⟩ (.string t532)).heap[gb518]? = some (.cells #[.int .i64 t515, .string t516] 26 (0, 0))) := ⟨by (with_reducible repeat (first | refine blk_drewN ?_ _ | refine blk_drew ?_ | refine blk_alloc ?_ _)); refine blk_far ?_ NB518_534.out _; (with_reducible repeat (first | refine blk_drewN ?_ _ | refine blk_drew ?_ | refine blk_alloc ?_ _)); refine blk_far ?_ NB518_534.out _; (with_reducible repeat (first | refine blk_drewN ?_ _ | refine blk_drew ?_ | refine blk_alloc ?_ _)); exact BK518.out⟩
            have n2_ : Aside0 (((w74.setCell ⟨gb534, 0, none⟩ (.int .i64 t531)).setCell ⟨gb534, 1, none⟩ (.string t532)).heap[gb522]? = some (.cells #[.int .i64 t519, .string t520] 26 (0, 0))) := ⟨by (with_reducible repeat (first | refine blk_drewN ?_ _ | refine blk_drew ?_ | refine blk_alloc ?_ _)); refine blk_far ?_ NB522_534.out _; (with_reducible repeat (first | refine blk_drewN ?_ _ | refine blk_drew ?_ | refine blk_alloc ?_ _)); refine blk_far ?_ NB522_534.out _; (with_reducible repeat (first | refine blk_drewN ?_ _ | refine blk_drew ?_ | refine blk_alloc ?_ _)); exact BK522.out⟩
            have n3_ : Aside0 (((w74.setCell ⟨gb534, 0, none⟩ (.int .i64 t531)).setCell ⟨gb534, 1, none⟩ (.string t532)).heap[gb526]? = some (.cells #[.int .i64 t523, .string t524] 26 (0, 0))) := ⟨by (with_reducible repeat (first | refine blk_drewN ?_ _ | refine blk_drew ?_ | refine blk_alloc ?_ _)); refine blk_far ?_ NB526_534.out _; (with_reducible repeat (first | refine blk_drewN ?_ _ | refine blk_drew ?_ | refine blk_alloc ?_ _)); refine blk_far ?_ NB526_534.out _; (with_reducible repeat (first | refine blk_drewN ?_ _ | refine blk_drew ?_ | refine blk_alloc ?_ _)); exact BK526.out⟩
            have n4_ : Aside0 (((w74.setCell ⟨gb534, 0, none⟩ (.int .i64 t531)).setCell ⟨gb534, 1, none⟩ (.string t532)).heap[gb530]? = some (.cells #[.int .i64 t527, .string t528] 26 (0, 0))) := ⟨by (with_reducible repeat (first | refine blk_drewN ?_ _ | refine blk_drew ?_ | refine blk_alloc ?_ _)); refine blk_far ?_ NB530_534.out _; (with_reducible repeat (first | refine blk_drewN ?_ _ | refine blk_drew ?_ | refine blk_alloc ?_ _)); refine blk_far ?_ NB530_534.out _; (with_reducible repeat (first | refine blk_drewN ?_ _ | refine blk_drew ?_ | refine blk_alloc ?_ _)); exact BK530.out⟩
            have n5_ : Aside0 (((w74.setCell ⟨gb534, 0, none⟩ (.int .i64 t531)).setCell ⟨gb534, 1, none⟩ (.string t532)).heap[gb534]? = some (.cells #[.int .i64 t531, .string t532] 26 (0, 0))) := ⟨by (with_reducible repeat (first | refine blk_drewN ?_ _ | refine blk_drew ?_ | refine blk_alloc ?_ _)); refine blk_put (cs := #[.int .i64 t531, .string (⟨#[]⟩ : ByteArray)]) ?_ 1 _ rfl; (with_reducible repeat (first | refine blk_drewN ?_ _ | refine blk_drew ?_ | refine blk_alloc ?_ _)); refine blk_put (cs := #[.int .i64 0, .string (⟨#[]⟩ : ByteArray)]) ?_ 0 _ rfl; (with_reducible repeat (first | refine blk_drewN ?_ _ | refine blk_drew ?_ | refine blk_alloc ?_ _)); exact BK534.out⟩
            have n6_ : Aside0 (Below w.heap.size w ((w74.setCell ⟨gb534, 0, none⟩ (.int .i64 t531)).setCell ⟨gb534, 1, none⟩ (.string t532))) := ⟨by repeat (first | (with_reducible first | exact HB.out | apply below_alloc | apply pw_below_drewN | apply below_drew1 | refine below_set ?_ GE517.out | refine below_set ?_ GE518.out | refine below_set ?_ GE522.out | refine below_set ?_ GE526.out | refine below_set ?_ GE530.out | refine below_set ?_ GE534.out) | exact HB.out)⟩
            (try clear BK517)
            (try clear BK518)
            (try clear BK522)
            (try clear BK526)
            (try clear BK530)
            (try clear BK534)
            (try clear HB)
            generalize ((w74.setCell ⟨gb534, 0, none⟩ (.int .i64 t531)).setCell ⟨gb534, 1, none⟩ (.string t532)) = w81 at n0_ n1_ n2_ n3_ n4_ n5_ n6_ ⊢
            have BK517 := n0_
            have BK518 := n1_
            have BK522 := n2_
            have BK526 := n3_
            have BK530 := n4_
            have BK534 := n5_
            have HB := n6_
            clear n0_ n1_ n2_ n3_ n4_ n5_ n6_
            have n0_ := Aside0.mk (blk_drew BK517.out)
            have n1_ := Aside0.mk (blk_drew BK518.out)
            have n2_ := Aside0.mk (blk_drew BK522.out)
            have n3_ := Aside0.mk (blk_drew BK526.out)
            have n4_ := Aside0.mk (blk_drew BK530.out)
            have n5_ := Aside0.mk (blk_drew BK534.out)
            have n6_ := Aside0.mk (below_drew1 HB.out)
            clear BK517
            clear BK518
            clear BK522
            clear BK526
            clear BK530
            clear BK534
            clear HB
            have BK517 := n0_
            have BK518 := n1_
            have BK522 := n2_
            have BK526 := n3_
            have BK530 := n4_
            have BK534 := n5_
            have HB := n6_
            clear n0_ n1_ n2_ n3_ n4_ n5_ n6_
            refine start_ (n := 10) (S := fun w' => w'.cell? ⟨gb517, 0, none⟩ = some (.int .i64 t513) ∧ w'.cell? ⟨gb517, 1, none⟩ = some (.string t514) ∧ w'.cell? ⟨gb518, 0, none⟩ = some (.int .i64 t515) ∧ w'.cell? ⟨gb518, 1, none⟩ = some (.string t516)) (ds := []) #[false, false, false, false, false, false, false, false, false, false] (by kernel_rfl) rfl rfl ⟨(blk_cell BK517.out 0).trans rfl, (blk_cell BK517.out 1).trans rfl, (blk_cell BK518.out 0).trans rfl, (blk_cell BK518.out 1).trans rfl⟩ (fun hHeld => ?_); refine with_tabW laws_FnLogic.tab12 laws_FnLogic.bits12 (fun HT_ HW_ => ?_)
            generalize w81.drew = w82 at BK517 BK518 BK522 BK526 BK530 BK534 HB hHeld ⊢
            refine take_ (i := 0) (N := some 69) (v := ?_) (a' := ?_) #[true, false, false, false, false, false, false, false, false, false] rfl rfl (take_ofW HT_.out HW_.out (by kernel_rfl)) (fun _ _ _ h => h) (Or.inl ⟨by rfl, ?_⟩) hHeld ?_ ?_
            rotate_left
            ·rintro w' ⟨s0, s1, s2, s3⟩
             go_simp
             with_reducible rfl
            rotate_left
            ·simp only [Act.put, List.setIfInBounds_toArray, List.set_cons_zero, List.set_cons_succ, i64_w, i32_w]
             rfl
            refine take_ (i := 1) (N := some 70) (v := ?_) (a' := ?_) #[true, true, false, false, false, false, false, false, false, false] rfl rfl (take_ofW HT_.out HW_.out (by kernel_rfl)) (fun _ _ _ h => h) (Or.inl ⟨by rfl, ?_⟩) hHeld ?_ ?_
            rotate_left
            ·rintro w' ⟨s0, s1, s2, s3⟩
             go_simp
             with_reducible rfl
            rotate_left
            ·simp only [Act.put, List.setIfInBounds_toArray, List.set_cons_zero, List.set_cons_succ, i64_w, i32_w]
             rfl
            refine join_ (σ := Nat) 2 #[true, true, true, true, true, true, true, true, false, false] (fun s_ => [(71, .agg #[.int .i64 t535, .string t536]), (72, .tuple #[.agg #[.int .i64 t537, .string t538], .bool t539]), (13, .pointer (some ⟨s_, 0, none⟩)), (68, .tuple #[.agg #[.int .i64 t537, .string t538], .bool t539]), (73, .agg #[.int .i64 t537, .string t538]), (74, .bool t539)]) (fun s_ w' => (w'.cell? ⟨gb517, 0, none⟩ = some (.int .i64 t513) ∧ w'.cell? ⟨gb517, 1, none⟩ = some (.string t514) ∧ w'.cell? ⟨gb518, 0, none⟩ = some (.int .i64 t515) ∧ w'.cell? ⟨gb518, 1, none⟩ = some (.string t516)) ∧ (w'.heap[gb517]? = some (.cells #[.int .i64 t513, .string t514] 26 (0, 0))) ∧ (w'.heap[gb518]? = some (.cells #[.int .i64 t515, .string t516] 26 (0, 0))) ∧ (w'.heap[gb522]? = some (.cells #[.int .i64 t519, .string t520] 26 (0, 0))) ∧ (w'.heap[gb526]? = some (.cells #[.int .i64 t523, .string t524] 26 (0, 0))) ∧ (w'.heap[gb530]? = some (.cells #[.int .i64 t527, .string t528] 26 (0, 0))) ∧ (w'.heap[gb534]? = some (.cells #[.int .i64 t531, .string t532] 26 (0, 0))) ∧ (w'.heap[s_]? = some (.cells #[.int .i64 0, .string (⟨#[]⟩ : ByteArray)] 26 (0, 0))) ∧ (w.heap.size ≤ s_) ∧ (w.heap.size ≤ s_) ∧ (gb517 ≠ s_) ∧ (s_ ≠ gb517) ∧ (gb518 ≠ s_) ∧ (s_ ≠ gb518) ∧ (gb522 ≠ s_) ∧ (s_ ≠ gb522) ∧ (gb526 ≠ s_) ∧ (s_ ≠ gb526) ∧ (gb530 ≠ s_) ∧ (s_ ≠ gb530) ∧ (gb534 ≠ s_) ∧ (s_ ≠ gb534) ∧ (Below w.heap.size w w')) ?_ ?_
            rotate_left
            ·intro hCont
             refine two_ (i := 2) (j := 7) (Ni := some 71) (Nj := some 13) #[true, true, true, false, false, false, false, false, false, false] #[true, true, false, false, false, false, false, true, false, false] rfl rfl rfl rfl (two_of HT_.out (by kernel_rfl)) (by decide) (by decide) (fun K hK => ?_) (fun K hK => ?_)
             ·skip
              refine goes_ Try.func30 (by kernel_rfl) rfl #[.agg #[.int .i64 t515, .string t516]] (by rfl) rfl rfl (by (try simp only [List.map_toArray, List.map_cons, List.map_nil]); first | done | rfl | (simp only [List.length_drop, List.length_take]; rfl)) ?_
              with_reducible refine (impl_TableNot.calls kj7 t515 t516 t535 t536 _ A41.out).mono ?_
              rintro e w83 ⟨rfl, hb⟩
              refine ⟨_, rfl, ?_⟩
              have n0_ := bb BK517 hb
              have n1_ := bb BK518 hb
              have n2_ := bb BK522 hb
              have n3_ := bb BK526 hb
              have n4_ := bb BK530 hb
              have n5_ := bb BK534 hb
              have n6_ := bs HB hb
              clear BK517
              clear BK518
              clear BK522
              clear BK526
              clear BK530
              clear BK534
              clear HB
              have BK517 := n0_
              have BK518 := n1_
              have BK522 := n2_
              have BK526 := n3_
              have BK530 := n4_
              have BK534 := n5_
              have HB := n6_
              clear n0_ n1_ n2_ n3_ n4_ n5_ n6_
              (try clear hb)
              (try clear hb2)
              (try clear hk)
              (try clear hi)
              refine hK.out _ _ ⟨(blk_cell BK517.out 0).trans rfl, (blk_cell BK517.out 1).trans rfl, (blk_cell BK518.out 0).trans rfl, (blk_cell BK518.out 1).trans rfl⟩ (fun hHeld => ?_)
              clear hK K
              refine norm_ (a' := ?_) ?_ ?_
              rotate_left
              ·show Act.put _ (some 71) _ = _
               simp only [Act.put, List.setIfInBounds_toArray, List.set_cons_zero, List.set_cons_succ, i64_w, i32_w]
               rfl
              refine two_ (i := 3) (j := 7) (Ni := some 72) (Nj := some 13) #[true, true, true, true, false, false, false, false, false, false] #[true, true, true, false, false, false, false, true, false, false] rfl rfl rfl rfl (two_of HT_.out (by kernel_rfl)) (by decide) (by decide) (fun K hK => ?_) (fun K hK => ?_)
              ·skip
               refine goes_ Try.func27 (by kernel_rfl) rfl #[.agg #[.int .i64 t513, .string t514], .agg #[.int .i64 t535, .string t536]] (by rfl) rfl rfl (by (try simp only [List.map_toArray, List.map_cons, List.map_nil]); first | done | rfl | (simp only [List.length_drop, List.length_take]; rfl)) ?_
               with_reducible refine (impl_TableAnd.calls kj7 t513 t514 t535 t536 t537 t538 t539 _ A42.out).mono ?_
               rintro e w84 ⟨rfl, hb⟩
               refine ⟨_, rfl, ?_⟩
               have n0_ := bb BK517 hb
               have n1_ := bb BK518 hb
               have n2_ := bb BK522 hb
               have n3_ := bb BK526 hb
               have n4_ := bb BK530 hb
               have n5_ := bb BK534 hb
               have n6_ := bs HB hb
               clear BK517
               clear BK518
               clear BK522
               clear BK526
               clear BK530
               clear BK534
               clear HB
               have BK517 := n0_
               have BK518 := n1_
               have BK522 := n2_
               have BK526 := n3_
               have BK530 := n4_
               have BK534 := n5_
               have HB := n6_
               clear n0_ n1_ n2_ n3_ n4_ n5_ n6_
               (try clear hb)
               (try clear hb2)
               (try clear hk)
               (try clear hi)
               refine hK.out _ _ ⟨(blk_cell BK517.out 0).trans rfl, (blk_cell BK517.out 1).trans rfl, (blk_cell BK518.out 0).trans rfl, (blk_cell BK518.out 1).trans rfl⟩ (fun hHeld => ?_)
               clear hK K
               refine norm_ (a' := ?_) ?_ ?_
               rotate_left
               ·show Act.put _ (some 72) _ = _
                simp only [Act.put, List.setIfInBounds_toArray, List.set_cons_zero, List.set_cons_succ, i64_w, i32_w]
                rfl
               refine pure_ (i := 4) (N := some 68) (v := ?_) (a' := ?_) #[true, true, true, true, true, false, false, false, false, false] rfl rfl (any_of HT_.out (by kernel_rfl)) (fun _ _ _ h => h) (Or.inl ⟨by rfl, ?_⟩) ?_ ?_
               rotate_left
               ·intro w'
                go_simp
                with_reducible rfl
               rotate_left
               ·simp only [Act.put, List.setIfInBounds_toArray, List.set_cons_zero, List.set_cons_succ, i64_w, i32_w]
                rfl
               refine pure_ (i := 5) (N := some 73) (v := ?_) (a' := ?_) #[true, true, true, true, true, true, false, false, false, false] rfl rfl (any_of HT_.out (by kernel_rfl)) (fun _ _ _ h => h) (Or.inl ⟨by rfl, ?_⟩) ?_ ?_
               rotate_left
               ·intro w'
                go_simp
                with_reducible rfl
               rotate_left
               ·simp only [Act.put, List.setIfInBounds_toArray, List.set_cons_zero, List.set_cons_succ, i64_w, i32_w]
                rfl
               refine pure_ (i := 6) (N := some 74) (v := ?_) (a' := ?_) #[true, true, true, true, true, true, true, false, false, false] rfl rfl (any_of HT_.out (by kernel_rfl)) (fun _ _ _ h => h) (Or.inl ⟨by rfl, ?_⟩) ?_ ?_
               rotate_left
               ·intro w'
                go_simp
                with_reducible rfl
               rotate_left
               ·simp only [Act.put, List.setIfInBounds_toArray, List.set_cons_zero, List.set_cons_succ, i64_w, i32_w]
                rfl
               refine one_ (i := 7) (N := some 13) #[true, true, true, true, true, true, true, true, false, false] rfl rfl (one_of HT_.out (by kernel_rfl)) (by decide) (fun K hK => ?_)
               refine box_step ?hg (N := 13) ?hd (cs := #[.int .i64 0, .string (⟨#[]⟩ : ByteArray)]) (t := 26) ?hr ?_; (case hd => rfl); (case hg => rfl); (case hr => first | (go_simp; done) | (go_simp; rfl))
               intro gb540 hg w85 hbox hb
               have n0_ := bb BK517 hb
               have n1_ := bb BK518 hb
               have n2_ := bb BK522 hb
               have n3_ := bb BK526 hb
               have n4_ := bb BK530 hb
               have n5_ := bb BK534 hb
               have n6_ := bs HB hb
               have n7_ := Aside0.mk (hbox)
               have n8_ := bz hg HB
               have n9_ := bz hg HB
               have n10_ := nl hg BK517
               have n11_ := ng hg BK517
               have n12_ := nl hg BK518
               have n13_ := ng hg BK518
               have n14_ := nl hg BK522
               have n15_ := ng hg BK522
               have n16_ := nl hg BK526
               have n17_ := ng hg BK526
               have n18_ := nl hg BK530
               have n19_ := ng hg BK530
               have n20_ := nl hg BK534
               have n21_ := ng hg BK534
               clear BK517
               clear BK518
               clear BK522
               clear BK526
               clear BK530
               clear BK534
               clear HB
               have BK517 := n0_
               have BK518 := n1_
               have BK522 := n2_
               have BK526 := n3_
               have BK530 := n4_
               have BK534 := n5_
               have HB := n6_
               have BK540 := n7_
               have GW540 := n8_
               have GE540 := n9_
               have NB517_540 := n10_
               have NB540_517 := n11_
               have NB518_540 := n12_
               have NB540_518 := n13_
               have NB522_540 := n14_
               have NB540_522 := n15_
               have NB526_540 := n16_
               have NB540_526 := n17_
               have NB530_540 := n18_
               have NB540_530 := n19_
               have NB534_540 := n20_
               have NB540_534 := n21_
               clear n0_ n1_ n2_ n3_ n4_ n5_ n6_ n7_ n8_ n9_ n10_ n11_ n12_ n13_ n14_ n15_ n16_ n17_ n18_ n19_ n20_ n21_
               clear hb hbox hg
               refine hK.out _ _ ⟨(blk_cell BK517.out 0).trans rfl, (blk_cell BK517.out 1).trans rfl, (blk_cell BK518.out 0).trans rfl, (blk_cell BK518.out 1).trans rfl⟩ (fun hHeld => ?_)
               clear hK K
               refine norm_ (a' := ?_) ?_ ?_
               rotate_left
               ·show Act.put _ (some 13) _ = _
                simp only [Act.put, List.setIfInBounds_toArray, List.set_cons_zero, List.set_cons_succ, i64_w, i32_w]
                rfl
               exact norm_ (by simp only [putAll, Act.put, List.setIfInBounds_toArray, List.set_cons_zero, List.set_cons_succ]) (hCont (gb540) _ ⟨hHeld, (by (with_reducible repeat (first | refine blk_drewN ?_ _ | refine blk_drew ?_ | refine blk_alloc ?_ _)); exact BK517.out), (by (with_reducible repeat (first | refine blk_drewN ?_ _ | refine blk_drew ?_ | refine blk_alloc ?_ _)); exact BK518.out), (by (with_reducible repeat (first | refine blk_drewN ?_ _ | refine blk_drew ?_ | refine blk_alloc ?_ _)); exact BK522.out), (by (with_reducible repeat (first | refine blk_drewN ?_ _ | refine blk_drew ?_ | refine blk_alloc ?_ _)); exact BK526.out), (by (with_reducible repeat (first | refine blk_drewN ?_ _ | refine blk_drew ?_ | refine blk_alloc ?_ _)); exact BK530.out), (by (with_reducible repeat (first | refine blk_drewN ?_ _ | refine blk_drew ?_ | refine blk_alloc ?_ _)); exact BK534.out), (by (with_reducible repeat (first | refine blk_drewN ?_ _ | refine blk_drew ?_ | refine blk_alloc ?_ _)); exact BK540.out), GW540.out, GE540.out, NB517_540.out, NB540_517.out, NB518_540.out, NB540_518.out, NB522_540.out, NB540_522.out, NB526_540.out, NB540_526.out, NB530_540.out, NB540_530.out, NB534_540.out, NB540_534.out, (by repeat (first | (with_reducible first | exact HB.out | apply below_alloc | apply pw_below_drewN | apply below_drew1 | refine below_set ?_ GE517.out | refine below_set ?_ GE518.out | refine below_set ?_ GE522.out | refine below_set ?_ GE526.out | refine below_set ?_ GE530.out | refine below_set ?_ GE534.out | refine below_set ?_ GE540.out) | exact HB.out))⟩)
              ·skip
               refine box_step ?hg (N := 13) ?hd (cs := #[.int .i64 0, .string (⟨#[]⟩ : ByteArray)]) (t := 26) ?hr ?_; (case hd => rfl); (case hg => rfl); (case hr => first | (go_simp; done) | (go_simp; rfl))
               intro gb540 hg w84 hbox hb
               have n0_ := bb BK517 hb
               have n1_ := bb BK518 hb
               have n2_ := bb BK522 hb
               have n3_ := bb BK526 hb
               have n4_ := bb BK530 hb
               have n5_ := bb BK534 hb
               have n6_ := bs HB hb
               have n7_ := Aside0.mk (hbox)
               have n8_ := bz hg HB
               have n9_ := bz hg HB
               have n10_ := nl hg BK517
               have n11_ := ng hg BK517
               have n12_ := nl hg BK518
               have n13_ := ng hg BK518
               have n14_ := nl hg BK522
               have n15_ := ng hg BK522
               have n16_ := nl hg BK526
               have n17_ := ng hg BK526
               have n18_ := nl hg BK530
               have n19_ := ng hg BK530
               have n20_ := nl hg BK534
               have n21_ := ng hg BK534
               clear BK517
               clear BK518
               clear BK522
               clear BK526
               clear BK530
               clear BK534
               clear HB
               have BK517 := n0_
               have BK518 := n1_
               have BK522 := n2_
               have BK526 := n3_
               have BK530 := n4_
               have BK534 := n5_
               have HB := n6_
               have BK540 := n7_
               have GW540 := n8_
               have GE540 := n9_
               have NB517_540 := n10_
               have NB540_517 := n11_
               have NB518_540 := n12_
               have NB540_518 := n13_
               have NB522_540 := n14_
               have NB540_522 := n15_
               have NB526_540 := n16_
               have NB540_526 := n17_
               have NB530_540 := n18_
               have NB540_530 := n19_
               have NB534_540 := n20_
               have NB540_534 := n21_
               clear n0_ n1_ n2_ n3_ n4_ n5_ n6_ n7_ n8_ n9_ n10_ n11_ n12_ n13_ n14_ n15_ n16_ n17_ n18_ n19_ n20_ n21_
               clear hb hbox hg
               refine hK.out _ _ ⟨(blk_cell BK517.out 0).trans rfl, (blk_cell BK517.out 1).trans rfl, (blk_cell BK518.out 0).trans rfl, (blk_cell BK518.out 1).trans rfl⟩ (fun hHeld => ?_)
               clear hK K
               refine norm_ (a' := ?_) ?_ ?_
               rotate_left
               ·show Act.put _ (some 13) _ = _
                simp only [Act.put, List.setIfInBounds_toArray, List.set_cons_zero, List.set_cons_succ, i64_w, i32_w]
                rfl
               refine one_ (i := 3) (N := some 72) #[true, true, true, true, false, false, false, true, false, false] rfl rfl (one_of HT_.out (by kernel_rfl)) (by decide) (fun K hK => ?_)
               refine goes_ Try.func27 (by kernel_rfl) rfl #[.agg #[.int .i64 t513, .string t514], .agg #[.int .i64 t535, .string t536]] (by rfl) rfl rfl (by (try simp only [List.map_toArray, List.map_cons, List.map_nil]); first | done | rfl | (simp only [List.length_drop, List.length_take]; rfl)) ?_
               with_reducible refine (impl_TableAnd.calls kj7 t513 t514 t535 t536 t537 t538 t539 _ A42.out).mono ?_
               rintro e w85 ⟨rfl, hb⟩
               refine ⟨_, rfl, ?_⟩
               have n0_ := bb BK517 hb
               have n1_ := bb BK518 hb
               have n2_ := bb BK522 hb
               have n3_ := bb BK526 hb
               have n4_ := bb BK530 hb
               have n5_ := bb BK534 hb
               have n6_ := bb BK540 hb
               have n7_ := bs HB hb
               clear BK517
               clear BK518
               clear BK522
               clear BK526
               clear BK530
               clear BK534
               clear BK540
               clear HB
               have BK517 := n0_
               have BK518 := n1_
               have BK522 := n2_
               have BK526 := n3_
               have BK530 := n4_
               have BK534 := n5_
               have BK540 := n6_
               have HB := n7_
               clear n0_ n1_ n2_ n3_ n4_ n5_ n6_ n7_
               (try clear hb)
               (try clear hb2)
               (try clear hk)
               (try clear hi)
               refine hK.out _ _ ⟨(blk_cell BK517.out 0).trans rfl, (blk_cell BK517.out 1).trans rfl, (blk_cell BK518.out 0).trans rfl, (blk_cell BK518.out 1).trans rfl⟩ (fun hHeld => ?_)
               clear hK K
               refine norm_ (a' := ?_) ?_ ?_
               rotate_left
               ·show Act.put _ (some 72) _ = _
                simp only [Act.put, List.setIfInBounds_toArray, List.set_cons_zero, List.set_cons_succ, i64_w, i32_w]
                rfl
               refine pure_ (i := 4) (N := some 68) (v := ?_) (a' := ?_) #[true, true, true, true, true, false, false, true, false, false] rfl rfl (any_of HT_.out (by kernel_rfl)) (fun _ _ _ h => h) (Or.inl ⟨by rfl, ?_⟩) ?_ ?_
               rotate_left
               ·intro w'
                go_simp
                with_reducible rfl
               rotate_left
               ·simp only [Act.put, List.setIfInBounds_toArray, List.set_cons_zero, List.set_cons_succ, i64_w, i32_w]
                rfl
               refine pure_ (i := 5) (N := some 73) (v := ?_) (a' := ?_) #[true, true, true, true, true, true, false, true, false, false] rfl rfl (any_of HT_.out (by kernel_rfl)) (fun _ _ _ h => h) (Or.inl ⟨by rfl, ?_⟩) ?_ ?_
               rotate_left
               ·intro w'
                go_simp
                with_reducible rfl
               rotate_left
               ·simp only [Act.put, List.setIfInBounds_toArray, List.set_cons_zero, List.set_cons_succ, i64_w, i32_w]
                rfl
               refine pure_ (i := 6) (N := some 74) (v := ?_) (a' := ?_) #[true, true, true, true, true, true, true, true, false, false] rfl rfl (any_of HT_.out (by kernel_rfl)) (fun _ _ _ h => h) (Or.inl ⟨by rfl, ?_⟩) ?_ ?_
               rotate_left
               ·intro w'
                go_simp
                with_reducible rfl
               rotate_left
               ·simp only [Act.put, List.setIfInBounds_toArray, List.set_cons_zero, List.set_cons_succ, i64_w, i32_w]
                rfl
               exact norm_ (by simp only [putAll, Act.put, List.setIfInBounds_toArray, List.set_cons_zero, List.set_cons_succ]) (hCont (gb540) _ ⟨hHeld, (by (with_reducible repeat (first | refine blk_drewN ?_ _ | refine blk_drew ?_ | refine blk_alloc ?_ _)); exact BK517.out), (by (with_reducible repeat (first | refine blk_drewN ?_ _ | refine blk_drew ?_ | refine blk_alloc ?_ _)); exact BK518.out), (by (with_reducible repeat (first | refine blk_drewN ?_ _ | refine blk_drew ?_ | refine blk_alloc ?_ _)); exact BK522.out), (by (with_reducible repeat (first | refine blk_drewN ?_ _ | refine blk_drew ?_ | refine blk_alloc ?_ _)); exact BK526.out), (by (with_reducible repeat (first | refine blk_drewN ?_ _ | refine blk_drew ?_ | refine blk_alloc ?_ _)); exact BK530.out), (by (with_reducible repeat (first | refine blk_drewN ?_ _ | refine blk_drew ?_ | refine blk_alloc ?_ _)); exact BK534.out), (by (with_reducible repeat (first | refine blk_drewN ?_ _ | refine blk_drew ?_ | refine blk_alloc ?_ _)); exact BK540.out), GW540.out, GE540.out, NB517_540.out, NB540_517.out, NB518_540.out, NB540_518.out, NB522_540.out, NB540_522.out, NB526_540.out, NB540_526.out, NB530_540.out, NB540_530.out, NB534_540.out, NB540_534.out, (by repeat (first | (with_reducible first | exact HB.out | apply below_alloc | apply pw_below_drewN | apply below_drew1 | refine below_set ?_ GE517.out | refine below_set ?_ GE518.out | refine below_set ?_ GE522.out | refine below_set ?_ GE526.out | refine below_set ?_ GE530.out | refine below_set ?_ GE534.out | refine below_set ?_ GE540.out) | exact HB.out))⟩)
             ·skip
              refine box_step ?hg (N := 13) ?hd (cs := #[.int .i64 0, .string (⟨#[]⟩ : ByteArray)]) (t := 26) ?hr ?_; (case hd => rfl); (case hg => rfl); (case hr => first | (go_simp; done) | (go_simp; rfl))
              intro gb540 hg w83 hbox hb
              have n0_ := bb BK517 hb
              have n1_ := bb BK518 hb
              have n2_ := bb BK522 hb
              have n3_ := bb BK526 hb
              have n4_ := bb BK530 hb
              have n5_ := bb BK534 hb
              have n6_ := bs HB hb
              have n7_ := Aside0.mk (hbox)
              have n8_ := bz hg HB
              have n9_ := bz hg HB
              have n10_ := nl hg BK517
              have n11_ := ng hg BK517
              have n12_ := nl hg BK518
              have n13_ := ng hg BK518
              have n14_ := nl hg BK522
              have n15_ := ng hg BK522
              have n16_ := nl hg BK526
              have n17_ := ng hg BK526
              have n18_ := nl hg BK530
              have n19_ := ng hg BK530
              have n20_ := nl hg BK534
              have n21_ := ng hg BK534
              clear BK517
              clear BK518
              clear BK522
              clear BK526
              clear BK530
              clear BK534
              clear HB
              have BK517 := n0_
              have BK518 := n1_
              have BK522 := n2_
              have BK526 := n3_
              have BK530 := n4_
              have BK534 := n5_
              have HB := n6_
              have BK540 := n7_
              have GW540 := n8_
              have GE540 := n9_
              have NB517_540 := n10_
              have NB540_517 := n11_
              have NB518_540 := n12_
              have NB540_518 := n13_
              have NB522_540 := n14_
              have NB540_522 := n15_
              have NB526_540 := n16_
              have NB540_526 := n17_
              have NB530_540 := n18_
              have NB540_530 := n19_
              have NB534_540 := n20_
              have NB540_534 := n21_
              clear n0_ n1_ n2_ n3_ n4_ n5_ n6_ n7_ n8_ n9_ n10_ n11_ n12_ n13_ n14_ n15_ n16_ n17_ n18_ n19_ n20_ n21_
              clear hb hbox hg
              refine hK.out _ _ ⟨(blk_cell BK517.out 0).trans rfl, (blk_cell BK517.out 1).trans rfl, (blk_cell BK518.out 0).trans rfl, (blk_cell BK518.out 1).trans rfl⟩ (fun hHeld => ?_)
              clear hK K
              refine norm_ (a' := ?_) ?_ ?_
              rotate_left
              ·show Act.put _ (some 13) _ = _
               simp only [Act.put, List.setIfInBounds_toArray, List.set_cons_zero, List.set_cons_succ, i64_w, i32_w]
               rfl
              refine one_ (i := 2) (N := some 71) #[true, true, true, false, false, false, false, true, false, false] rfl rfl (one_of HT_.out (by kernel_rfl)) (by decide) (fun K hK => ?_)
              refine goes_ Try.func30 (by kernel_rfl) rfl #[.agg #[.int .i64 t515, .string t516]] (by rfl) rfl rfl (by (try simp only [List.map_toArray, List.map_cons, List.map_nil]); first | done | rfl | (simp only [List.length_drop, List.length_take]; rfl)) ?_
              with_reducible refine (impl_TableNot.calls kj7 t515 t516 t535 t536 _ A41.out).mono ?_
              rintro e w84 ⟨rfl, hb⟩
              refine ⟨_, rfl, ?_⟩
              have n0_ := bb BK517 hb
              have n1_ := bb BK518 hb
              have n2_ := bb BK522 hb
              have n3_ := bb BK526 hb
              have n4_ := bb BK530 hb
              have n5_ := bb BK534 hb
              have n6_ := bb BK540 hb
              have n7_ := bs HB hb
              clear BK517
              clear BK518
              clear BK522
              clear BK526
              clear BK530
              clear BK534
              clear BK540
              clear HB
              have BK517 := n0_
              have BK518 := n1_
              have BK522 := n2_
              have BK526 := n3_
              have BK530 := n4_
              have BK534 := n5_
              have BK540 := n6_
              have HB := n7_
              clear n0_ n1_ n2_ n3_ n4_ n5_ n6_ n7_
              (try clear hb)
              (try clear hb2)
              (try clear hk)
              (try clear hi)
              refine hK.out _ _ ⟨(blk_cell BK517.out 0).trans rfl, (blk_cell BK517.out 1).trans rfl, (blk_cell BK518.out 0).trans rfl, (blk_cell BK518.out 1).trans rfl⟩ (fun hHeld => ?_)
              clear hK K
              refine norm_ (a' := ?_) ?_ ?_
              rotate_left
              ·show Act.put _ (some 71) _ = _
               simp only [Act.put, List.setIfInBounds_toArray, List.set_cons_zero, List.set_cons_succ, i64_w, i32_w]
               rfl
              refine one_ (i := 3) (N := some 72) #[true, true, true, true, false, false, false, true, false, false] rfl rfl (one_of HT_.out (by kernel_rfl)) (by decide) (fun K hK => ?_)
              refine goes_ Try.func27 (by kernel_rfl) rfl #[.agg #[.int .i64 t513, .string t514], .agg #[.int .i64 t535, .string t536]] (by rfl) rfl rfl (by (try simp only [List.map_toArray, List.map_cons, List.map_nil]); first | done | rfl | (simp only [List.length_drop, List.length_take]; rfl)) ?_
              with_reducible refine (impl_TableAnd.calls kj7 t513 t514 t535 t536 t537 t538 t539 _ A42.out).mono ?_
              rintro e w85 ⟨rfl, hb⟩
              refine ⟨_, rfl, ?_⟩
              have n0_ := bb BK517 hb
              have n1_ := bb BK518 hb
              have n2_ := bb BK522 hb
              have n3_ := bb BK526 hb
              have n4_ := bb BK530 hb
              have n5_ := bb BK534 hb
              have n6_ := bb BK540 hb
              have n7_ := bs HB hb
              clear BK517
              clear BK518
              clear BK522
              clear BK526
              clear BK530
              clear BK534
              clear BK540
              clear HB
              have BK517 := n0_
              have BK518 := n1_
              have BK522 := n2_
              have BK526 := n3_
              have BK530 := n4_
              have BK534 := n5_
              have BK540 := n6_
              have HB := n7_
              clear n0_ n1_ n2_ n3_ n4_ n5_ n6_ n7_
              (try clear hb)
              (try clear hb2)
              (try clear hk)
              (try clear hi)
              refine hK.out _ _ ⟨(blk_cell BK517.out 0).trans rfl, (blk_cell BK517.out 1).trans rfl, (blk_cell BK518.out 0).trans rfl, (blk_cell BK518.out 1).trans rfl⟩ (fun hHeld => ?_)
              clear hK K
              refine norm_ (a' := ?_) ?_ ?_
              rotate_left
              ·show Act.put _ (some 72) _ = _
               simp only [Act.put, List.setIfInBounds_toArray, List.set_cons_zero, List.set_cons_succ, i64_w, i32_w]
               rfl
              refine pure_ (i := 4) (N := some 68) (v := ?_) (a' := ?_) #[true, true, true, true, true, false, false, true, false, false] rfl rfl (any_of HT_.out (by kernel_rfl)) (fun _ _ _ h => h) (Or.inl ⟨by rfl, ?_⟩) ?_ ?_
              rotate_left
              ·intro w'
               go_simp
               with_reducible rfl
              rotate_left
              ·simp only [Act.put, List.setIfInBounds_toArray, List.set_cons_zero, List.set_cons_succ, i64_w, i32_w]
               rfl
              refine pure_ (i := 5) (N := some 73) (v := ?_) (a' := ?_) #[true, true, true, true, true, true, false, true, false, false] rfl rfl (any_of HT_.out (by kernel_rfl)) (fun _ _ _ h => h) (Or.inl ⟨by rfl, ?_⟩) ?_ ?_
              rotate_left
              ·intro w'
               go_simp
               with_reducible rfl
              rotate_left
              ·simp only [Act.put, List.setIfInBounds_toArray, List.set_cons_zero, List.set_cons_succ, i64_w, i32_w]
               rfl
              refine pure_ (i := 6) (N := some 74) (v := ?_) (a' := ?_) #[true, true, true, true, true, true, true, true, false, false] rfl rfl (any_of HT_.out (by kernel_rfl)) (fun _ _ _ h => h) (Or.inl ⟨by rfl, ?_⟩) ?_ ?_
              rotate_left
              ·intro w'
               go_simp
               with_reducible rfl
              rotate_left
              ·simp only [Act.put, List.setIfInBounds_toArray, List.set_cons_zero, List.set_cons_succ, i64_w, i32_w]
               rfl
              exact norm_ (by simp only [putAll, Act.put, List.setIfInBounds_toArray, List.set_cons_zero, List.set_cons_succ]) (hCont (gb540) _ ⟨hHeld, (by (with_reducible repeat (first | refine blk_drewN ?_ _ | refine blk_drew ?_ | refine blk_alloc ?_ _)); exact BK517.out), (by (with_reducible repeat (first | refine blk_drewN ?_ _ | refine blk_drew ?_ | refine blk_alloc ?_ _)); exact BK518.out), (by (with_reducible repeat (first | refine blk_drewN ?_ _ | refine blk_drew ?_ | refine blk_alloc ?_ _)); exact BK522.out), (by (with_reducible repeat (first | refine blk_drewN ?_ _ | refine blk_drew ?_ | refine blk_alloc ?_ _)); exact BK526.out), (by (with_reducible repeat (first | refine blk_drewN ?_ _ | refine blk_drew ?_ | refine blk_alloc ?_ _)); exact BK530.out), (by (with_reducible repeat (first | refine blk_drewN ?_ _ | refine blk_drew ?_ | refine blk_alloc ?_ _)); exact BK534.out), (by (with_reducible repeat (first | refine blk_drewN ?_ _ | refine blk_drew ?_ | refine blk_alloc ?_ _)); exact BK540.out), GW540.out, GE540.out, NB517_540.out, NB540_517.out, NB518_540.out, NB540_518.out, NB522_540.out, NB540_522.out, NB526_540.out, NB540_526.out, NB530_540.out, NB540_530.out, NB534_540.out, NB540_534.out, (by repeat (first | (with_reducible first | exact HB.out | apply below_alloc | apply pw_below_drewN | apply below_drew1 | refine below_set ?_ GE517.out | refine below_set ?_ GE518.out | refine below_set ?_ GE522.out | refine below_set ?_ GE526.out | refine below_set ?_ GE530.out | refine below_set ?_ GE534.out | refine below_set ?_ GE540.out) | exact HB.out))⟩)
            rintro gb540 w86 ⟨hS_, h0_, h1_, h2_, h3_, h4_, h5_, h6_, h7_, h8_, h9_, h10_, h11_, h12_, h13_, h14_, h15_, h16_, h17_, h18_, h19_, h20_, h21_⟩
            have n0_ : Aside0 (w86.heap[gb517]? = some (.cells #[.int .i64 t513, .string t514] 26 (0, 0))) := ⟨h0_⟩
            have n1_ : Aside0 (w86.heap[gb518]? = some (.cells #[.int .i64 t515, .string t516] 26 (0, 0))) := ⟨h1_⟩
            have n2_ : Aside0 (w86.heap[gb522]? = some (.cells #[.int .i64 t519, .string t520] 26 (0, 0))) := ⟨h2_⟩
            have n3_ : Aside0 (w86.heap[gb526]? = some (.cells #[.int .i64 t523, .string t524] 26 (0, 0))) := ⟨h3_⟩
            have n4_ : Aside0 (w86.heap[gb530]? = some (.cells #[.int .i64 t527, .string t528] 26 (0, 0))) := ⟨h4_⟩
            have n5_ : Aside0 (w86.heap[gb534]? = some (.cells #[.int .i64 t531, .string t532] 26 (0, 0))) := ⟨h5_⟩
            have n6_ : Aside0 (w86.heap[gb540]? = some (.cells #[.int .i64 0, .string (⟨#[]⟩ : ByteArray)] 26 (0, 0))) := ⟨h6_⟩
            have n7_ : Aside0 (w.heap.size ≤ gb540) := ⟨h7_⟩
            have n8_ : Aside0 (w.heap.size ≤ gb540) := ⟨h8_⟩
            have n9_ : Aside0 (gb517 ≠ gb540) := ⟨h9_⟩
            have n10_ : Aside0 (gb540 ≠ gb517) := ⟨h10_⟩
            have n11_ : Aside0 (gb518 ≠ gb540) := ⟨h11_⟩
            have n12_ : Aside0 (gb540 ≠ gb518) := ⟨h12_⟩
            have n13_ : Aside0 (gb522 ≠ gb540) := ⟨h13_⟩
            have n14_ : Aside0 (gb540 ≠ gb522) := ⟨h14_⟩
            have n15_ : Aside0 (gb526 ≠ gb540) := ⟨h15_⟩
            have n16_ : Aside0 (gb540 ≠ gb526) := ⟨h16_⟩
            have n17_ : Aside0 (gb530 ≠ gb540) := ⟨h17_⟩
            have n18_ : Aside0 (gb540 ≠ gb530) := ⟨h18_⟩
            have n19_ : Aside0 (gb534 ≠ gb540) := ⟨h19_⟩
            have n20_ : Aside0 (gb540 ≠ gb534) := ⟨h20_⟩
            have n21_ : Aside0 (Below w.heap.size w w86) := ⟨h21_⟩
            clear BK517
            clear BK518
            clear BK522
            clear BK526
            clear BK530
            clear BK534
            clear HB
            clear h0_ h1_ h2_ h3_ h4_ h5_ h6_ h7_ h8_ h9_ h10_ h11_ h12_ h13_ h14_ h15_ h16_ h17_ h18_ h19_ h20_ h21_
            have BK517 := n0_
            have BK518 := n1_
            have BK522 := n2_
            have BK526 := n3_
            have BK530 := n4_
            have BK534 := n5_
            have BK540 := n6_
            have GW540 := n7_
            have GE540 := n8_
            have NB517_540 := n9_
            have NB540_517 := n10_
            have NB518_540 := n11_
            have NB540_518 := n12_
            have NB522_540 := n13_
            have NB540_522 := n14_
            have NB526_540 := n15_
            have NB540_526 := n16_
            have NB530_540 := n17_
            have NB540_530 := n18_
            have NB534_540 := n19_
            have NB540_534 := n20_
            have HB := n21_
            clear n0_ n1_ n2_ n3_ n4_ n5_ n6_ n7_ n8_ n9_ n10_ n11_ n12_ n13_ n14_ n15_ n16_ n17_ n18_ n19_ n20_ n21_
            have hHeld : w86.cell? ⟨gb517, 0, none⟩ = some (.int .i64 t513) ∧ w86.cell? ⟨gb517, 1, none⟩ = some (.string t514) ∧ w86.cell? ⟨gb518, 0, none⟩ = some (.int .i64 t515) ∧ w86.cell? ⟨gb518, 1, none⟩ = some (.string t516) := hS_
            refine norm_ (a' := ?_) ?_ ?_
            rotate_left
            ·simp only [putAll, Act.put, List.setIfInBounds_toArray, List.set_cons_zero, List.set_cons_succ]
             rfl
            refine one_ (i := 8) (N := none) #[true, true, true, true, true, true, true, true, true, false] rfl rfl (one_of HT_.out (by kernel_rfl)) (by decide) (fun K hK => ?_)
            have hs87 : w86.cell? ⟨gb540, 0, none⟩ = some (.int .i64 0) := (blk_cell BK540.out 0).trans rfl
            have hfs87 := blk_frozen BK540.out 0
            have hns87_0 := NB517_540.out
            have hns87_1 := NB518_540.out
            have hns87_2 := NB522_540.out
            have hns87_3 := NB526_540.out
            have hns87_4 := NB530_540.out
            have hns87_5 := NB534_540.out
            have hms87_0 := NB540_517.out
            have hms87_1 := NB540_518.out
            have hms87_2 := NB540_522.out
            have hms87_3 := NB540_526.out
            have hms87_4 := NB540_530.out
            have hms87_5 := NB540_534.out
            have hs88 : w86.cell? ⟨gb540, 1, none⟩ = some (.string (⟨#[]⟩ : ByteArray)) := (blk_cell BK540.out 1).trans rfl
            have hfs88 := blk_frozen BK540.out 1
            have hns88_0 := NB517_540.out
            have hns88_1 := NB518_540.out
            have hns88_2 := NB522_540.out
            have hns88_3 := NB526_540.out
            have hns88_4 := NB530_540.out
            have hns88_5 := NB534_540.out
            have hms88_0 := NB540_517.out
            have hms88_1 := NB540_518.out
            have hms88_2 := NB540_522.out
            have hms88_3 := NB540_526.out
            have hms88_4 := NB540_530.out
            have hms88_5 := NB540_534.out
            refine skip_ (w1 := ?_) (by rfl) rfl ?_ ?_
            rotate_left
            ·go_simp
             rfl
            refine hK.out _ _ ⟨((cell_far (p := ⟨gb540, _, none⟩) NB517_540.out _).trans (((cell_far (p := ⟨gb540, _, none⟩) NB517_540.out _).trans (hHeld.1)))), ((cell_far (p := ⟨gb540, _, none⟩) NB517_540.out _).trans (((cell_far (p := ⟨gb540, _, none⟩) NB517_540.out _).trans (hHeld.2.1)))), ((cell_far (p := ⟨gb540, _, none⟩) NB518_540.out _).trans (((cell_far (p := ⟨gb540, _, none⟩) NB518_540.out _).trans (hHeld.2.2.1)))), ((cell_far (p := ⟨gb540, _, none⟩) NB518_540.out _).trans (((cell_far (p := ⟨gb540, _, none⟩) NB518_540.out _).trans (hHeld.2.2.2))))⟩ (fun hHeld => ?_)
            clear hK K
            refine pure_ (i := 9) (N := some 14) (v := ?_) (a' := ?_) #[true, true, true, true, true, true, true, true, true, true] rfl rfl (any_of HT_.out (by kernel_rfl)) (fun _ _ _ h => h) (Or.inl ⟨by rfl, ?_⟩) ?_ ?_
            rotate_left
            ·intro w'
             go_simp
             with_reducible rfl
            rotate_left
            ·simp only [Act.put, List.setIfInBounds_toArray, List.set_cons_zero, List.set_cons_succ, i64_w, i32_w]
             rfl
            refine done_ (done_of HT_.out (by kernel_rfl)) ?_
            try go_wp2
            have n0_ : Aside0 (((w86.setCell ⟨gb540, 0, none⟩ (.int .i64 t537)).setCell ⟨gb540, 1, none⟩ (.string t538)).heap[gb517]? = some (.cells #[.int .i64 t513, .string t514] 26 (0, 0))) := ⟨by (with_reducible repeat (first | refine blk_drewN ?_ _ | refine blk_drew ?_ | refine blk_alloc ?_ _)); refine blk_far ?_ NB517_540.out _; (with_reducible repeat (first | refine blk_drewN ?_ _ | refine blk_drew ?_ | refine blk_alloc ?_ _)); refine blk_far ?_ NB517_540.out _; (with_reducible repeat (first | refine blk_drewN ?_ _ | refine blk_drew ?_ | refine blk_alloc ?_ _)); exact BK517.out⟩
            have n1_ : Aside0 (((w86.setCell ⟨gb540, 0, none⟩ (.int .i64 t537)).setCell ⟨gb540, 1, none⟩ (.string t538)).heap[gb518]? = some (.cells #[.int .i64 t515, .string t516] 26 (0, 0))) := ⟨by (with_reducible repeat (first | refine blk_drewN ?_ _ | refine blk_drew ?_ | refine blk_alloc ?_ _)); refine blk_far ?_ NB518_540.out _; (with_reducible repeat (first | refine blk_drewN ?_ _ | refine blk_drew ?_ | refine blk_alloc ?_ _)); refine blk_far ?_ NB518_540.out _; (with_reducible repeat (first | refine blk_drewN ?_ _ | refine blk_drew ?_ | refine blk_alloc ?_ _)); exact BK518.out⟩
            have n2_ : Aside0 (((w86.setCell ⟨gb540, 0, none⟩ (.int .i64 t537)).setCell ⟨gb540, 1, none⟩ (.string t538)).heap[gb522]? = some (.cells #[.int .i64 t519, .string t520] 26 (0, 0))) := ⟨by (with_reducible repeat (first | refine blk_drewN ?_ _ | refine blk_drew ?_ | refine blk_alloc ?_ _)); refine blk_far ?_ NB522_540.out _; (with_reducible repeat (first | refine blk_drewN ?_ _ | refine blk_drew ?_ | refine blk_alloc ?_ _)); refine blk_far ?_ NB522_540.out _; (with_reducible repeat (first | refine blk_drewN ?_ _ | refine blk_drew ?_ | refine blk_alloc ?_ _)); exact BK522.out⟩
            have n3_ : Aside0 (((w86.setCell ⟨gb540, 0, none⟩ (.int .i64 t537)).setCell ⟨gb540, 1, none⟩ (.string t538)).heap[gb526]? = some (.cells #[.int .i64 t523, .string t524] 26 (0, 0))) := ⟨by (with_reducible repeat (first | refine blk_drewN ?_ _ | refine blk_drew ?_ | refine blk_alloc ?_ _)); refine blk_far ?_ NB526_540.out _; (with_reducible repeat (first | refine blk_drewN ?_ _ | refine blk_drew ?_ | refine blk_alloc ?_ _)); refine blk_far ?_ NB526_540.out _; (with_reducible repeat (first | refine blk_drewN ?_ _ | refine blk_drew ?_ | refine blk_alloc ?_ _)); exact BK526.out⟩
            have n4_ : Aside0 (((w86.setCell ⟨gb540, 0, none⟩ (.int .i64 t537)).setCell ⟨gb540, 1, none⟩ (.string t538)).heap[gb530]? = some (.cells #[.int .i64 t527, .string t528] 26 (0, 0))) := ⟨by (with_reducible repeat (first | refine blk_drewN ?_ _ | refine blk_drew ?_ | refine blk_alloc ?_ _)); refine blk_far ?_ NB530_540.out _; (with_reducible repeat (first | refine blk_drewN ?_ _ | refine blk_drew ?_ | refine blk_alloc ?_ _)); refine blk_far ?_ NB530_540.out _; (with_reducible repeat (first | refine blk_drewN ?_ _ | refine blk_drew ?_ | refine blk_alloc ?_ _)); exact BK530.out⟩
            have n5_ : Aside0 (((w86.setCell ⟨gb540, 0, none⟩ (.int .i64 t537)).setCell ⟨gb540, 1, none⟩ (.string t538)).heap[gb534]? = some (.cells #[.int .i64 t531, .string t532] 26 (0, 0))) := ⟨by (with_reducible repeat (first | refine blk_drewN ?_ _ | refine blk_drew ?_ | refine blk_alloc ?_ _)); refine blk_far ?_ NB534_540.out _; (with_reducible repeat (first | refine blk_drewN ?_ _ | refine blk_drew ?_ | refine blk_alloc ?_ _)); refine blk_far ?_ NB534_540.out _; (with_reducible repeat (first | refine blk_drewN ?_ _ | refine blk_drew ?_ | refine blk_alloc ?_ _)); exact BK534.out⟩
            have n6_ : Aside0 (((w86.setCell ⟨gb540, 0, none⟩ (.int .i64 t537)).setCell ⟨gb540, 1, none⟩ (.string t538)).heap[gb540]? = some (.cells #[.int .i64 t537, .string t538] 26 (0, 0))) := ⟨by (with_reducible repeat (first | refine blk_drewN ?_ _ | refine blk_drew ?_ | refine blk_alloc ?_ _)); refine blk_put (cs := #[.int .i64 t537, .string (⟨#[]⟩ : ByteArray)]) ?_ 1 _ rfl; (with_reducible repeat (first | refine blk_drewN ?_ _ | refine blk_drew ?_ | refine blk_alloc ?_ _)); refine blk_put (cs := #[.int .i64 0, .string (⟨#[]⟩ : ByteArray)]) ?_ 0 _ rfl; (with_reducible repeat (first | refine blk_drewN ?_ _ | refine blk_drew ?_ | refine blk_alloc ?_ _)); exact BK540.out⟩
            have n7_ : Aside0 (Below w.heap.size w ((w86.setCell ⟨gb540, 0, none⟩ (.int .i64 t537)).setCell ⟨gb540, 1, none⟩ (.string t538))) := ⟨by repeat (first | (with_reducible first | exact HB.out | apply below_alloc | apply pw_below_drewN | apply below_drew1 | refine below_set ?_ GE517.out | refine below_set ?_ GE518.out | refine below_set ?_ GE522.out | refine below_set ?_ GE526.out | refine below_set ?_ GE530.out | refine below_set ?_ GE534.out | refine below_set ?_ GE540.out) | exact HB.out)⟩
            (try clear BK517)
            (try clear BK518)
            (try clear BK522)
            (try clear BK526)
            (try clear BK530)
            (try clear BK534)
            (try clear BK540)
            (try clear HB)
            generalize ((w86.setCell ⟨gb540, 0, none⟩ (.int .i64 t537)).setCell ⟨gb540, 1, none⟩ (.string t538)) = w89 at n0_ n1_ n2_ n3_ n4_ n5_ n6_ n7_ ⊢
            have BK517 := n0_
            have BK518 := n1_
            have BK522 := n2_
            have BK526 := n3_
            have BK530 := n4_
            have BK534 := n5_
            have BK540 := n6_
            have HB := n7_
            clear n0_ n1_ n2_ n3_ n4_ n5_ n6_ n7_
            have n0_ := Aside0.mk (blk_drew BK517.out)
            have n1_ := Aside0.mk (blk_drew BK518.out)
            have n2_ := Aside0.mk (blk_drew BK522.out)
            have n3_ := Aside0.mk (blk_drew BK526.out)
            have n4_ := Aside0.mk (blk_drew BK530.out)
            have n5_ := Aside0.mk (blk_drew BK534.out)
            have n6_ := Aside0.mk (blk_drew BK540.out)
            have n7_ := Aside0.mk (below_drew1 HB.out)
            clear BK517
            clear BK518
            clear BK522
            clear BK526
            clear BK530
            clear BK534
            clear BK540
            clear HB
            have BK517 := n0_
            have BK518 := n1_
            have BK522 := n2_
            have BK526 := n3_
            have BK530 := n4_
            have BK534 := n5_
            have BK540 := n6_
            have HB := n7_
            clear n0_ n1_ n2_ n3_ n4_ n5_ n6_ n7_
            refine start_ (n := 10) (S := fun w' => w'.cell? ⟨gb517, 0, none⟩ = some (.int .i64 t513) ∧ w'.cell? ⟨gb517, 1, none⟩ = some (.string t514) ∧ w'.cell? ⟨gb518, 0, none⟩ = some (.int .i64 t515) ∧ w'.cell? ⟨gb518, 1, none⟩ = some (.string t516)) (ds := []) #[false, false, false, false, false, false, false, false, false, false] (by kernel_rfl) rfl rfl ⟨(blk_cell BK517.out 0).trans rfl, (blk_cell BK517.out 1).trans rfl, (blk_cell BK518.out 0).trans rfl, (blk_cell BK518.out 1).trans rfl⟩ (fun hHeld => ?_); refine with_tabW laws_FnLogic.tab13 laws_FnLogic.bits13 (fun HT_ HW_ => ?_)
            generalize w89.drew = w90 at BK517 BK518 BK522 BK526 BK530 BK534 BK540 HB hHeld ⊢
            refine take_ (i := 0) (N := some 76) (v := ?_) (a' := ?_) #[true, false, false, false, false, false, false, false, false, false] rfl rfl (take_ofW HT_.out HW_.out (by kernel_rfl)) (fun _ _ _ h => h) (Or.inl ⟨by rfl, ?_⟩) hHeld ?_ ?_
            rotate_left
            ·rintro w' ⟨s0, s1, s2, s3⟩
             go_simp
             with_reducible rfl
            rotate_left
            ·simp only [Act.put, List.setIfInBounds_toArray, List.set_cons_zero, List.set_cons_succ, i64_w, i32_w]
             rfl
            refine take_ (i := 2) (N := some 78) (v := ?_) (a' := ?_) #[true, false, true, false, false, false, false, false, false, false] rfl rfl (take_ofW HT_.out HW_.out (by kernel_rfl)) (fun _ _ _ h => h) (Or.inl ⟨by rfl, ?_⟩) hHeld ?_ ?_
            rotate_left
            ·rintro w' ⟨s0, s1, s2, s3⟩
             go_simp
             with_reducible rfl
            rotate_left
            ·simp only [Act.put, List.setIfInBounds_toArray, List.set_cons_zero, List.set_cons_succ, i64_w, i32_w]
             rfl
            refine join_ (σ := Nat) 2 #[true, true, true, true, true, true, true, true, false, false] (fun s_ => [(77, .agg #[.int .i64 t541, .string t542]), (79, .tuple #[.agg #[.int .i64 t543, .string t544], .bool t545]), (15, .pointer (some ⟨s_, 0, none⟩)), (75, .tuple #[.agg #[.int .i64 t543, .string t544], .bool t545]), (80, .agg #[.int .i64 t543, .string t544]), (81, .bool t545)]) (fun s_ w' => (w'.cell? ⟨gb517, 0, none⟩ = some (.int .i64 t513) ∧ w'.cell? ⟨gb517, 1, none⟩ = some (.string t514) ∧ w'.cell? ⟨gb518, 0, none⟩ = some (.int .i64 t515) ∧ w'.cell? ⟨gb518, 1, none⟩ = some (.string t516)) ∧ (w'.heap[gb517]? = some (.cells #[.int .i64 t513, .string t514] 26 (0, 0))) ∧ (w'.heap[gb518]? = some (.cells #[.int .i64 t515, .string t516] 26 (0, 0))) ∧ (w'.heap[gb522]? = some (.cells #[.int .i64 t519, .string t520] 26 (0, 0))) ∧ (w'.heap[gb526]? = some (.cells #[.int .i64 t523, .string t524] 26 (0, 0))) ∧ (w'.heap[gb530]? = some (.cells #[.int .i64 t527, .string t528] 26 (0, 0))) ∧ (w'.heap[gb534]? = some (.cells #[.int .i64 t531, .string t532] 26 (0, 0))) ∧ (w'.heap[gb540]? = some (.cells #[.int .i64 t537, .string t538] 26 (0, 0))) ∧ (w'.heap[s_]? = some (.cells #[.int .i64 0, .string (⟨#[]⟩ : ByteArray)] 26 (0, 0))) ∧ (w.heap.size ≤ s_) ∧ (w.heap.size ≤ s_) ∧ (gb517 ≠ s_) ∧ (s_ ≠ gb517) ∧ (gb518 ≠ s_) ∧ (s_ ≠ gb518) ∧ (gb522 ≠ s_) ∧ (s_ ≠ gb522) ∧ (gb526 ≠ s_) ∧ (s_ ≠ gb526) ∧ (gb530 ≠ s_) ∧ (s_ ≠ gb530) ∧ (gb534 ≠ s_) ∧ (s_ ≠ gb534) ∧ (gb540 ≠ s_) ∧ (s_ ≠ gb540) ∧ (Below w.heap.size w w')) ?_ ?_
            rotate_left
            ·intro hCont
             refine two_ (i := 1) (j := 7) (Ni := some 77) (Nj := some 15) #[true, true, true, false, false, false, false, false, false, false] #[true, false, true, false, false, false, false, true, false, false] rfl rfl rfl rfl (two_of HT_.out (by kernel_rfl)) (by decide) (by decide) (fun K hK => ?_) (fun K hK => ?_)
             ·skip
              refine goes_ Try.func30 (by kernel_rfl) rfl #[.agg #[.int .i64 t513, .string t514]] (by rfl) rfl rfl (by (try simp only [List.map_toArray, List.map_cons, List.map_nil]); first | done | rfl | (simp only [List.length_drop, List.length_take]; rfl)) ?_
              with_reducible refine (impl_TableNot.calls kj7 t513 t514 t541 t542 _ A43.out).mono ?_
              rintro e w91 ⟨rfl, hb⟩
              refine ⟨_, rfl, ?_⟩
              have n0_ := bb BK517 hb
              have n1_ := bb BK518 hb
              have n2_ := bb BK522 hb
              have n3_ := bb BK526 hb
              have n4_ := bb BK530 hb
              have n5_ := bb BK534 hb
              have n6_ := bb BK540 hb
              have n7_ := bs HB hb
              clear BK517
              clear BK518
              clear BK522
              clear BK526
              clear BK530
              clear BK534
              clear BK540
              clear HB
              have BK517 := n0_
              have BK518 := n1_
              have BK522 := n2_
              have BK526 := n3_
              have BK530 := n4_
              have BK534 := n5_
              have BK540 := n6_
              have HB := n7_
              clear n0_ n1_ n2_ n3_ n4_ n5_ n6_ n7_
              (try clear hb)
              (try clear hb2)
              (try clear hk)
              (try clear hi)
              refine hK.out _ _ ⟨(blk_cell BK517.out 0).trans rfl, (blk_cell BK517.out 1).trans rfl, (blk_cell BK518.out 0).trans rfl, (blk_cell BK518.out 1).trans rfl⟩ (fun hHeld => ?_)
              clear hK K
              refine norm_ (a' := ?_) ?_ ?_
              rotate_left
              ·show Act.put _ (some 77) _ = _
               simp only [Act.put, List.setIfInBounds_toArray, List.set_cons_zero, List.set_cons_succ, i64_w, i32_w]
               rfl
              refine two_ (i := 3) (j := 7) (Ni := some 79) (Nj := some 15) #[true, true, true, true, false, false, false, false, false, false] #[true, true, true, false, false, false, false, true, false, false] rfl rfl rfl rfl (two_of HT_.out (by kernel_rfl)) (by decide) (by decide) (fun K hK => ?_) (fun K hK => ?_)
              ·skip
               refine goes_ Try.func27 (by kernel_rfl) rfl #[.agg #[.int .i64 t541, .string t542], .agg #[.int .i64 t515, .string t516]] (by rfl) rfl rfl (by (try simp only [List.map_toArray, List.map_cons, List.map_nil]); first | done | rfl | (simp only [List.length_drop, List.length_take]; rfl)) ?_
               with_reducible refine (impl_TableAnd.calls kj7 t541 t542 t515 t516 t543 t544 t545 _ A44.out).mono ?_
               rintro e w92 ⟨rfl, hb⟩
               refine ⟨_, rfl, ?_⟩
               have n0_ := bb BK517 hb
               have n1_ := bb BK518 hb
               have n2_ := bb BK522 hb
               have n3_ := bb BK526 hb
               have n4_ := bb BK530 hb
               have n5_ := bb BK534 hb
               have n6_ := bb BK540 hb
               have n7_ := bs HB hb
               clear BK517
               clear BK518
               clear BK522
               clear BK526
               clear BK530
               clear BK534
               clear BK540
               clear HB
               have BK517 := n0_
               have BK518 := n1_
               have BK522 := n2_
               have BK526 := n3_
               have BK530 := n4_
               have BK534 := n5_
               have BK540 := n6_
               have HB := n7_
               clear n0_ n1_ n2_ n3_ n4_ n5_ n6_ n7_
               (try clear hb)
               (try clear hb2)
               (try clear hk)
               (try clear hi)
               refine hK.out _ _ ⟨(blk_cell BK517.out 0).trans rfl, (blk_cell BK517.out 1).trans rfl, (blk_cell BK518.out 0).trans rfl, (blk_cell BK518.out 1).trans rfl⟩ (fun hHeld => ?_)
               clear hK K
               refine norm_ (a' := ?_) ?_ ?_
               rotate_left
               ·show Act.put _ (some 79) _ = _
                simp only [Act.put, List.setIfInBounds_toArray, List.set_cons_zero, List.set_cons_succ, i64_w, i32_w]
                rfl
               refine pure_ (i := 4) (N := some 75) (v := ?_) (a' := ?_) #[true, true, true, true, true, false, false, false, false, false] rfl rfl (any_of HT_.out (by kernel_rfl)) (fun _ _ _ h => h) (Or.inl ⟨by rfl, ?_⟩) ?_ ?_
               rotate_left
               ·intro w'
                go_simp
                with_reducible rfl
               rotate_left
               ·simp only [Act.put, List.setIfInBounds_toArray, List.set_cons_zero, List.set_cons_succ, i64_w, i32_w]
                rfl
               refine pure_ (i := 5) (N := some 80) (v := ?_) (a' := ?_) #[true, true, true, true, true, true, false, false, false, false] rfl rfl (any_of HT_.out (by kernel_rfl)) (fun _ _ _ h => h) (Or.inl ⟨by rfl, ?_⟩) ?_ ?_
               rotate_left
               ·intro w'
                go_simp
                with_reducible rfl
               rotate_left
               ·simp only [Act.put, List.setIfInBounds_toArray, List.set_cons_zero, List.set_cons_succ, i64_w, i32_w]
                rfl
               refine pure_ (i := 6) (N := some 81) (v := ?_) (a' := ?_) #[true, true, true, true, true, true, true, false, false, false] rfl rfl (any_of HT_.out (by kernel_rfl)) (fun _ _ _ h => h) (Or.inl ⟨by rfl, ?_⟩) ?_ ?_
               rotate_left
               ·intro w'
                go_simp
                with_reducible rfl
               rotate_left
               ·simp only [Act.put, List.setIfInBounds_toArray, List.set_cons_zero, List.set_cons_succ, i64_w, i32_w]
                rfl
               refine one_ (i := 7) (N := some 15) #[true, true, true, true, true, true, true, true, false, false] rfl rfl (one_of HT_.out (by kernel_rfl)) (by decide) (fun K hK => ?_)
               refine box_step ?hg (N := 15) ?hd (cs := #[.int .i64 0, .string (⟨#[]⟩ : ByteArray)]) (t := 26) ?hr ?_; (case hd => rfl); (case hg => rfl); (case hr => first | (go_simp; done) | (go_simp; rfl))
               intro gb546 hg w93 hbox hb
               have n0_ := bb BK517 hb
               have n1_ := bb BK518 hb
               have n2_ := bb BK522 hb
               have n3_ := bb BK526 hb
               have n4_ := bb BK530 hb
               have n5_ := bb BK534 hb
               have n6_ := bb BK540 hb
               have n7_ := bs HB hb
               have n8_ := Aside0.mk (hbox)
               have n9_ := bz hg HB
               have n10_ := bz hg HB
               have n11_ := nl hg BK517
               have n12_ := ng hg BK517
               have n13_ := nl hg BK518
               have n14_ := ng hg BK518
               have n15_ := nl hg BK522
               have n16_ := ng hg BK522
               have n17_ := nl hg BK526
               have n18_ := ng hg BK526
               have n19_ := nl hg BK530
               have n20_ := ng hg BK530
               have n21_ := nl hg BK534
               have n22_ := ng hg BK534
               have n23_ := nl hg BK540
               have n24_ := ng hg BK540
               clear BK517
               clear BK518
               clear BK522
               clear BK526
               clear BK530
               clear BK534
               clear BK540
               clear HB
               have BK517 := n0_
               have BK518 := n1_
               have BK522 := n2_
               have BK526 := n3_
               have BK530 := n4_
               have BK534 := n5_
               have BK540 := n6_
               have HB := n7_
               have BK546 := n8_
               have GW546 := n9_
               have GE546 := n10_
               have NB517_546 := n11_
               have NB546_517 := n12_
               have NB518_546 := n13_
               have NB546_518 := n14_
               have NB522_546 := n15_
               have NB546_522 := n16_
               have NB526_546 := n17_
               have NB546_526 := n18_
               have NB530_546 := n19_
               have NB546_530 := n20_
               have NB534_546 := n21_
               have NB546_534 := n22_
               have NB540_546 := n23_
               have NB546_540 := n24_
               clear n0_ n1_ n2_ n3_ n4_ n5_ n6_ n7_ n8_ n9_ n10_ n11_ n12_ n13_ n14_ n15_ n16_ n17_ n18_ n19_ n20_ n21_ n22_ n23_ n24_
               clear hb hbox hg
               refine hK.out _ _ ⟨(blk_cell BK517.out 0).trans rfl, (blk_cell BK517.out 1).trans rfl, (blk_cell BK518.out 0).trans rfl, (blk_cell BK518.out 1).trans rfl⟩ (fun hHeld => ?_)
               clear hK K
               refine norm_ (a' := ?_) ?_ ?_
               rotate_left
               ·show Act.put _ (some 15) _ = _
                simp only [Act.put, List.setIfInBounds_toArray, List.set_cons_zero, List.set_cons_succ, i64_w, i32_w]
                rfl
               exact norm_ (by simp only [putAll, Act.put, List.setIfInBounds_toArray, List.set_cons_zero, List.set_cons_succ]) (hCont (gb546) _ ⟨hHeld, (by (with_reducible repeat (first | refine blk_drewN ?_ _ | refine blk_drew ?_ | refine blk_alloc ?_ _)); exact BK517.out), (by (with_reducible repeat (first | refine blk_drewN ?_ _ | refine blk_drew ?_ | refine blk_alloc ?_ _)); exact BK518.out), (by (with_reducible repeat (first | refine blk_drewN ?_ _ | refine blk_drew ?_ | refine blk_alloc ?_ _)); exact BK522.out), (by (with_reducible repeat (first | refine blk_drewN ?_ _ | refine blk_drew ?_ | refine blk_alloc ?_ _)); exact BK526.out), (by (with_reducible repeat (first | refine blk_drewN ?_ _ | refine blk_drew ?_ | refine blk_alloc ?_ _)); exact BK530.out), (by (with_reducible repeat (first | refine blk_drewN ?_ _ | refine blk_drew ?_ | refine blk_alloc ?_ _)); exact BK534.out), (by (with_reducible repeat (first | refine blk_drewN ?_ _ | refine blk_drew ?_ | refine blk_alloc ?_ _)); exact BK540.out), (by (with_reducible repeat (first | refine blk_drewN ?_ _ | refine blk_drew ?_ | refine blk_alloc ?_ _)); exact BK546.out), GW546.out, GE546.out, NB517_546.out, NB546_517.out, NB518_546.out, NB546_518.out, NB522_546.out, NB546_522.out, NB526_546.out, NB546_526.out, NB530_546.out, NB546_530.out, NB534_546.out, NB546_534.out, NB540_546.out, NB546_540.out, (by repeat (first | (with_reducible first | exact HB.out | apply below_alloc | apply pw_below_drewN | apply below_drew1 | refine below_set ?_ GE517.out | refine below_set ?_ GE518.out | refine below_set ?_ GE522.out | refine below_set ?_ GE526.out | refine below_set ?_ GE530.out | refine below_set ?_ GE534.out | refine below_set ?_ GE540.out | refine below_set ?_ GE546.out) | exact HB.out))⟩)
              ·skip
               refine box_step ?hg (N := 15) ?hd (cs := #[.int .i64 0, .string (⟨#[]⟩ : ByteArray)]) (t := 26) ?hr ?_; (case hd => rfl); (case hg => rfl); (case hr => first | (go_simp; done) | (go_simp; rfl))
               intro gb546 hg w92 hbox hb
               have n0_ := bb BK517 hb
               have n1_ := bb BK518 hb
               have n2_ := bb BK522 hb
               have n3_ := bb BK526 hb
               have n4_ := bb BK530 hb
               have n5_ := bb BK534 hb
               have n6_ := bb BK540 hb
               have n7_ := bs HB hb
               have n8_ := Aside0.mk (hbox)
               have n9_ := bz hg HB
               have n10_ := bz hg HB
               have n11_ := nl hg BK517
               have n12_ := ng hg BK517
               have n13_ := nl hg BK518
               have n14_ := ng hg BK518
               have n15_ := nl hg BK522
               have n16_ := ng hg BK522
               have n17_ := nl hg BK526
               have n18_ := ng hg BK526
               have n19_ := nl hg BK530
               have n20_ := ng hg BK530
               have n21_ := nl hg BK534
               have n22_ := ng hg BK534
               have n23_ := nl hg BK540
               have n24_ := ng hg BK540
               clear BK517
               clear BK518
               clear BK522
               clear BK526
               clear BK530
               clear BK534
               clear BK540
               clear HB
               have BK517 := n0_
               have BK518 := n1_
               have BK522 := n2_
               have BK526 := n3_
               have BK530 := n4_
               have BK534 := n5_
               have BK540 := n6_
               have HB := n7_
               have BK546 := n8_
               have GW546 := n9_
               have GE546 := n10_
               have NB517_546 := n11_
               have NB546_517 := n12_
               have NB518_546 := n13_
               have NB546_518 := n14_
               have NB522_546 := n15_
               have NB546_522 := n16_
               have NB526_546 := n17_
               have NB546_526 := n18_
               have NB530_546 := n19_
               have NB546_530 := n20_
               have NB534_546 := n21_
               have NB546_534 := n22_
               have NB540_546 := n23_
               have NB546_540 := n24_
               clear n0_ n1_ n2_ n3_ n4_ n5_ n6_ n7_ n8_ n9_ n10_ n11_ n12_ n13_ n14_ n15_ n16_ n17_ n18_ n19_ n20_ n21_ n22_ n23_ n24_
               clear hb hbox hg
               refine hK.out _ _ ⟨(blk_cell BK517.out 0).trans rfl, (blk_cell BK517.out 1).trans rfl, (blk_cell BK518.out 0).trans rfl, (blk_cell BK518.out 1).trans rfl⟩ (fun hHeld => ?_)
               clear hK K
               refine norm_ (a' := ?_) ?_ ?_
               rotate_left
               ·show Act.put _ (some 15) _ = _
                simp only [Act.put, List.setIfInBounds_toArray, List.set_cons_zero, List.set_cons_succ, i64_w, i32_w]
                rfl
               refine one_ (i := 3) (N := some 79) #[true, true, true, true, false, false, false, true, false, false] rfl rfl (one_of HT_.out (by kernel_rfl)) (by decide) (fun K hK => ?_)
               refine goes_ Try.func27 (by kernel_rfl) rfl #[.agg #[.int .i64 t541, .string t542], .agg #[.int .i64 t515, .string t516]] (by rfl) rfl rfl (by (try simp only [List.map_toArray, List.map_cons, List.map_nil]); first | done | rfl | (simp only [List.length_drop, List.length_take]; rfl)) ?_
               with_reducible refine (impl_TableAnd.calls kj7 t541 t542 t515 t516 t543 t544 t545 _ A44.out).mono ?_
               rintro e w93 ⟨rfl, hb⟩
               refine ⟨_, rfl, ?_⟩
               have n0_ := bb BK517 hb
               have n1_ := bb BK518 hb
               have n2_ := bb BK522 hb
               have n3_ := bb BK526 hb
               have n4_ := bb BK530 hb
               have n5_ := bb BK534 hb
               have n6_ := bb BK540 hb
               have n7_ := bb BK546 hb
               have n8_ := bs HB hb
               clear BK517
               clear BK518
               clear BK522
               clear BK526
               clear BK530
               clear BK534
               clear BK540
               clear BK546
               clear HB
               have BK517 := n0_
               have BK518 := n1_
               have BK522 := n2_
               have BK526 := n3_
               have BK530 := n4_
               have BK534 := n5_
               have BK540 := n6_
               have BK546 := n7_
               have HB := n8_
               clear n0_ n1_ n2_ n3_ n4_ n5_ n6_ n7_ n8_
               (try clear hb)
               (try clear hb2)
               (try clear hk)
               (try clear hi)
               refine hK.out _ _ ⟨(blk_cell BK517.out 0).trans rfl, (blk_cell BK517.out 1).trans rfl, (blk_cell BK518.out 0).trans rfl, (blk_cell BK518.out 1).trans rfl⟩ (fun hHeld => ?_)
               clear hK K
               refine norm_ (a' := ?_) ?_ ?_
               rotate_left
               ·show Act.put _ (some 79) _ = _
                simp only [Act.put, List.setIfInBounds_toArray, List.set_cons_zero, List.set_cons_succ, i64_w, i32_w]
                rfl
               refine pure_ (i := 4) (N := some 75) (v := ?_) (a' := ?_) #[true, true, true, true, true, false, false, true, false, false] rfl rfl (any_of HT_.out (by kernel_rfl)) (fun _ _ _ h => h) (Or.inl ⟨by rfl, ?_⟩) ?_ ?_
               rotate_left
               ·intro w'
                go_simp
                with_reducible rfl
               rotate_left
               ·simp only [Act.put, List.setIfInBounds_toArray, List.set_cons_zero, List.set_cons_succ, i64_w, i32_w]
                rfl
               refine pure_ (i := 5) (N := some 80) (v := ?_) (a' := ?_) #[true, true, true, true, true, true, false, true, false, false] rfl rfl (any_of HT_.out (by kernel_rfl)) (fun _ _ _ h => h) (Or.inl ⟨by rfl, ?_⟩) ?_ ?_
               rotate_left
               ·intro w'
                go_simp
                with_reducible rfl
               rotate_left
               ·simp only [Act.put, List.setIfInBounds_toArray, List.set_cons_zero, List.set_cons_succ, i64_w, i32_w]
                rfl
               refine pure_ (i := 6) (N := some 81) (v := ?_) (a' := ?_) #[true, true, true, true, true, true, true, true, false, false] rfl rfl (any_of HT_.out (by kernel_rfl)) (fun _ _ _ h => h) (Or.inl ⟨by rfl, ?_⟩) ?_ ?_
               rotate_left
               ·intro w'
                go_simp
                with_reducible rfl
               rotate_left
               ·simp only [Act.put, List.setIfInBounds_toArray, List.set_cons_zero, List.set_cons_succ, i64_w, i32_w]
                rfl
               exact norm_ (by simp only [putAll, Act.put, List.setIfInBounds_toArray, List.set_cons_zero, List.set_cons_succ]) (hCont (gb546) _ ⟨hHeld, (by (with_reducible repeat (first | refine blk_drewN ?_ _ | refine blk_drew ?_ | refine blk_alloc ?_ _)); exact BK517.out), (by (with_reducible repeat (first | refine blk_drewN ?_ _ | refine blk_drew ?_ | refine blk_alloc ?_ _)); exact BK518.out), (by (with_reducible repeat (first | refine blk_drewN ?_ _ | refine blk_drew ?_ | refine blk_alloc ?_ _)); exact BK522.out), (by (with_reducible repeat (first | refine blk_drewN ?_ _ | refine blk_drew ?_ | refine blk_alloc ?_ _)); exact BK526.out), (by (with_reducible repeat (first | refine blk_drewN ?_ _ | refine blk_drew ?_ | refine blk_alloc ?_ _)); exact BK530.out), (by (with_reducible repeat (first | refine blk_drewN ?_ _ | refine blk_drew ?_ | refine blk_alloc ?_ _)); exact BK534.out), (by (with_reducible repeat (first | refine blk_drewN ?_ _ | refine blk_drew ?_ | refine blk_alloc ?_ _)); exact BK540.out), (by (with_reducible repeat (first | refine blk_drewN ?_ _ | refine blk_drew ?_ | refine blk_alloc ?_ _)); exact BK546.out), GW546.out, GE546.out, NB517_546.out, NB546_517.out, NB518_546.out, NB546_518.out, NB522_546.out, NB546_522.out, NB526_546.out, NB546_526.out, NB530_546.out, NB546_530.out, NB534_546.out, NB546_534.out, NB540_546.out, NB546_540.out, (by repeat (first | (with_reducible first | exact HB.out | apply below_alloc | apply pw_below_drewN | apply below_drew1 | refine below_set ?_ GE517.out | refine below_set ?_ GE518.out | refine below_set ?_ GE522.out | refine below_set ?_ GE526.out | refine below_set ?_ GE530.out | refine below_set ?_ GE534.out | refine below_set ?_ GE540.out | refine below_set ?_ GE546.out) | exact HB.out))⟩)
             ·skip
              refine box_step ?hg (N := 15) ?hd (cs := #[.int .i64 0, .string (⟨#[]⟩ : ByteArray)]) (t := 26) ?hr ?_; (case hd => rfl); (case hg => rfl); (case hr => first | (go_simp; done) | (go_simp; rfl))
              intro gb546 hg w91 hbox hb
              have n0_ := bb BK517 hb
              have n1_ := bb BK518 hb
              have n2_ := bb BK522 hb
              have n3_ := bb BK526 hb
              have n4_ := bb BK530 hb
              have n5_ := bb BK534 hb
              have n6_ := bb BK540 hb
              have n7_ := bs HB hb
              have n8_ := Aside0.mk (hbox)
              have n9_ := bz hg HB
              have n10_ := bz hg HB
              have n11_ := nl hg BK517
              have n12_ := ng hg BK517
              have n13_ := nl hg BK518
              have n14_ := ng hg BK518
              have n15_ := nl hg BK522
              have n16_ := ng hg BK522
              have n17_ := nl hg BK526
              have n18_ := ng hg BK526
              have n19_ := nl hg BK530
              have n20_ := ng hg BK530
              have n21_ := nl hg BK534
              have n22_ := ng hg BK534
              have n23_ := nl hg BK540
              have n24_ := ng hg BK540
              clear BK517
              clear BK518
              clear BK522
              clear BK526
              clear BK530
              clear BK534
              clear BK540
              clear HB
              have BK517 := n0_
              have BK518 := n1_
              have BK522 := n2_
              have BK526 := n3_
              have BK530 := n4_
              have BK534 := n5_
              have BK540 := n6_
              have HB := n7_
              have BK546 := n8_
              have GW546 := n9_
              have GE546 := n10_
              have NB517_546 := n11_
              have NB546_517 := n12_
              have NB518_546 := n13_
              have NB546_518 := n14_
              have NB522_546 := n15_
              have NB546_522 := n16_
              have NB526_546 := n17_
              have NB546_526 := n18_
              have NB530_546 := n19_
              have NB546_530 := n20_
              have NB534_546 := n21_
              have NB546_534 := n22_
              have NB540_546 := n23_
              have NB546_540 := n24_
              clear n0_ n1_ n2_ n3_ n4_ n5_ n6_ n7_ n8_ n9_ n10_ n11_ n12_ n13_ n14_ n15_ n16_ n17_ n18_ n19_ n20_ n21_ n22_ n23_ n24_
              clear hb hbox hg
              refine hK.out _ _ ⟨(blk_cell BK517.out 0).trans rfl, (blk_cell BK517.out 1).trans rfl, (blk_cell BK518.out 0).trans rfl, (blk_cell BK518.out 1).trans rfl⟩ (fun hHeld => ?_)
              clear hK K
              refine norm_ (a' := ?_) ?_ ?_
              rotate_left
              ·show Act.put _ (some 15) _ = _
               simp only [Act.put, List.setIfInBounds_toArray, List.set_cons_zero, List.set_cons_succ, i64_w, i32_w]
               rfl
              refine one_ (i := 1) (N := some 77) #[true, true, true, false, false, false, false, true, false, false] rfl rfl (one_of HT_.out (by kernel_rfl)) (by decide) (fun K hK => ?_)
              refine goes_ Try.func30 (by kernel_rfl) rfl #[.agg #[.int .i64 t513, .string t514]] (by rfl) rfl rfl (by (try simp only [List.map_toArray, List.map_cons, List.map_nil]); first | done | rfl | (simp only [List.length_drop, List.length_take]; rfl)) ?_
              with_reducible refine (impl_TableNot.calls kj7 t513 t514 t541 t542 _ A43.out).mono ?_
              rintro e w92 ⟨rfl, hb⟩
              refine ⟨_, rfl, ?_⟩
              have n0_ := bb BK517 hb
              have n1_ := bb BK518 hb
              have n2_ := bb BK522 hb
              have n3_ := bb BK526 hb
              have n4_ := bb BK530 hb
              have n5_ := bb BK534 hb
              have n6_ := bb BK540 hb
              have n7_ := bb BK546 hb
              have n8_ := bs HB hb
              clear BK517
              clear BK518
              clear BK522
              clear BK526
              clear BK530
              clear BK534
              clear BK540
              clear BK546
              clear HB
              have BK517 := n0_
              have BK518 := n1_
              have BK522 := n2_
              have BK526 := n3_
              have BK530 := n4_
              have BK534 := n5_
              have BK540 := n6_
              have BK546 := n7_
              have HB := n8_
              clear n0_ n1_ n2_ n3_ n4_ n5_ n6_ n7_ n8_
              (try clear hb)
              (try clear hb2)
              (try clear hk)
              (try clear hi)
              refine hK.out _ _ ⟨(blk_cell BK517.out 0).trans rfl, (blk_cell BK517.out 1).trans rfl, (blk_cell BK518.out 0).trans rfl, (blk_cell BK518.out 1).trans rfl⟩ (fun hHeld => ?_)
              clear hK K
              refine norm_ (a' := ?_) ?_ ?_
              rotate_left
              ·show Act.put _ (some 77) _ = _
               simp only [Act.put, List.setIfInBounds_toArray, List.set_cons_zero, List.set_cons_succ, i64_w, i32_w]
               rfl
              refine one_ (i := 3) (N := some 79) #[true, true, true, true, false, false, false, true, false, false] rfl rfl (one_of HT_.out (by kernel_rfl)) (by decide) (fun K hK => ?_)
              refine goes_ Try.func27 (by kernel_rfl) rfl #[.agg #[.int .i64 t541, .string t542], .agg #[.int .i64 t515, .string t516]] (by rfl) rfl rfl (by (try simp only [List.map_toArray, List.map_cons, List.map_nil]); first | done | rfl | (simp only [List.length_drop, List.length_take]; rfl)) ?_
              with_reducible refine (impl_TableAnd.calls kj7 t541 t542 t515 t516 t543 t544 t545 _ A44.out).mono ?_
              rintro e w93 ⟨rfl, hb⟩
              refine ⟨_, rfl, ?_⟩
              have n0_ := bb BK517 hb
              have n1_ := bb BK518 hb
              have n2_ := bb BK522 hb
              have n3_ := bb BK526 hb
              have n4_ := bb BK530 hb
              have n5_ := bb BK534 hb
              have n6_ := bb BK540 hb
              have n7_ := bb BK546 hb
              have n8_ := bs HB hb
              clear BK517
              clear BK518
              clear BK522
              clear BK526
              clear BK530
              clear BK534
              clear BK540
              clear BK546
              clear HB
              have BK517 := n0_
              have BK518 := n1_
              have BK522 := n2_
              have BK526 := n3_
              have BK530 := n4_
              have BK534 := n5_
              have BK540 := n6_
              have BK546 := n7_
              have HB := n8_
              clear n0_ n1_ n2_ n3_ n4_ n5_ n6_ n7_ n8_
              (try clear hb)
              (try clear hb2)
              (try clear hk)
              (try clear hi)
              refine hK.out _ _ ⟨(blk_cell BK517.out 0).trans rfl, (blk_cell BK517.out 1).trans rfl, (blk_cell BK518.out 0).trans rfl, (blk_cell BK518.out 1).trans rfl⟩ (fun hHeld => ?_)
              clear hK K
              refine norm_ (a' := ?_) ?_ ?_
              rotate_left
              ·show Act.put _ (some 79) _ = _
               simp only [Act.put, List.setIfInBounds_toArray, List.set_cons_zero, List.set_cons_succ, i64_w, i32_w]
               rfl
              refine pure_ (i := 4) (N := some 75) (v := ?_) (a' := ?_) #[true, true, true, true, true, false, false, true, false, false] rfl rfl (any_of HT_.out (by kernel_rfl)) (fun _ _ _ h => h) (Or.inl ⟨by rfl, ?_⟩) ?_ ?_
              rotate_left
              ·intro w'
               go_simp
               with_reducible rfl
              rotate_left
              ·simp only [Act.put, List.setIfInBounds_toArray, List.set_cons_zero, List.set_cons_succ, i64_w, i32_w]
               rfl
              refine pure_ (i := 5) (N := some 80) (v := ?_) (a' := ?_) #[true, true, true, true, true, true, false, true, false, false] rfl rfl (any_of HT_.out (by kernel_rfl)) (fun _ _ _ h => h) (Or.inl ⟨by rfl, ?_⟩) ?_ ?_
              rotate_left
              ·intro w'
               go_simp
               with_reducible rfl
              rotate_left
              ·simp only [Act.put, List.setIfInBounds_toArray, List.set_cons_zero, List.set_cons_succ, i64_w, i32_w]
               rfl
              refine pure_ (i := 6) (N := some 81) (v := ?_) (a' := ?_) #[true, true, true, true, true, true, true, true, false, false] rfl rfl (any_of HT_.out (by kernel_rfl)) (fun _ _ _ h => h) (Or.inl ⟨by rfl, ?_⟩) ?_ ?_
              rotate_left
              ·intro w'
               go_simp
               with_reducible rfl
              rotate_left
              ·simp only [Act.put, List.setIfInBounds_toArray, List.set_cons_zero, List.set_cons_succ, i64_w, i32_w]
               rfl
              exact norm_ (by simp only [putAll, Act.put, List.setIfInBounds_toArray, List.set_cons_zero, List.set_cons_succ]) (hCont (gb546) _ ⟨hHeld, (by (with_reducible repeat (first | refine blk_drewN ?_ _ | refine blk_drew ?_ | refine blk_alloc ?_ _)); exact BK517.out), (by (with_reducible repeat (first | refine blk_drewN ?_ _ | refine blk_drew ?_ | refine blk_alloc ?_ _)); exact BK518.out), (by (with_reducible repeat (first | refine blk_drewN ?_ _ | refine blk_drew ?_ | refine blk_alloc ?_ _)); exact BK522.out), (by (with_reducible repeat (first | refine blk_drewN ?_ _ | refine blk_drew ?_ | refine blk_alloc ?_ _)); exact BK526.out), (by (with_reducible repeat (first | refine blk_drewN ?_ _ | refine blk_drew ?_ | refine blk_alloc ?_ _)); exact BK530.out), (by (with_reducible repeat (first | refine blk_drewN ?_ _ | refine blk_drew ?_ | refine blk_alloc ?_ _)); exact BK534.out), (by (with_reducible repeat (first | refine blk_drewN ?_ _ | refine blk_drew ?_ | refine blk_alloc ?_ _)); exact BK540.out), (by (with_reducible repeat (first | refine blk_drewN ?_ _ | refine blk_drew ?_ | refine blk_alloc ?_ _)); exact BK546.out), GW546.out, GE546.out, NB517_546.out, NB546_517.out, NB518_546.out, NB546_518.out, NB522_546.out, NB546_522.out, NB526_546.out, NB546_526.out, NB530_546.out, NB546_530.out, NB534_546.out, NB546_534.out, NB540_546.out, NB546_540.out, (by repeat (first | (with_reducible first | exact HB.out | apply below_alloc | apply pw_below_drewN | apply below_drew1 | refine below_set ?_ GE517.out | refine below_set ?_ GE518.out | refine below_set ?_ GE522.out | refine below_set ?_ GE526.out | refine below_set ?_ GE530.out | refine below_set ?_ GE534.out | refine below_set ?_ GE540.out | refine below_set ?_ GE546.out) | exact HB.out))⟩)
            rintro gb546 w94 ⟨hS_, h0_, h1_, h2_, h3_, h4_, h5_, h6_, h7_, h8_, h9_, h10_, h11_, h12_, h13_, h14_, h15_, h16_, h17_, h18_, h19_, h20_, h21_, h22_, h23_, h24_⟩
            have n0_ : Aside0 (w94.heap[gb517]? = some (.cells #[.int .i64 t513, .string t514] 26 (0, 0))) := ⟨h0_⟩
            have n1_ : Aside0 (w94.heap[gb518]? = some (.cells #[.int .i64 t515, .string t516] 26 (0, 0))) := ⟨h1_⟩
            have n2_ : Aside0 (w94.heap[gb522]? = some (.cells #[.int .i64 t519, .string t520] 26 (0, 0))) := ⟨h2_⟩
            have n3_ : Aside0 (w94.heap[gb526]? = some (.cells #[.int .i64 t523, .string t524] 26 (0, 0))) := ⟨h3_⟩
            have n4_ : Aside0 (w94.heap[gb530]? = some (.cells #[.int .i64 t527, .string t528] 26 (0, 0))) := ⟨h4_⟩
            have n5_ : Aside0 (w94.heap[gb534]? = some (.cells #[.int .i64 t531, .string t532] 26 (0, 0))) := ⟨h5_⟩
            have n6_ : Aside0 (w94.heap[gb540]? = some (.cells #[.int .i64 t537, .string t538] 26 (0, 0))) := ⟨h6_⟩
            have n7_ : Aside0 (w94.heap[gb546]? = some (.cells #[.int .i64 0, .string (⟨#[]⟩ : ByteArray)] 26 (0, 0))) := ⟨h7_⟩
            have n8_ : Aside0 (w.heap.size ≤ gb546) := ⟨h8_⟩
            have n9_ : Aside0 (w.heap.size ≤ gb546) := ⟨h9_⟩
            have n10_ : Aside0 (gb517 ≠ gb546) := ⟨h10_⟩
            have n11_ : Aside0 (gb546 ≠ gb517) := ⟨h11_⟩
            have n12_ : Aside0 (gb518 ≠ gb546) := ⟨h12_⟩
            have n13_ : Aside0 (gb546 ≠ gb518) := ⟨h13_⟩
            have n14_ : Aside0 (gb522 ≠ gb546) := ⟨h14_⟩
            have n15_ : Aside0 (gb546 ≠ gb522) := ⟨h15_⟩
            have n16_ : Aside0 (gb526 ≠ gb546) := ⟨h16_⟩
            have n17_ : Aside0 (gb546 ≠ gb526) := ⟨h17_⟩
            have n18_ : Aside0 (gb530 ≠ gb546) := ⟨h18_⟩
            have n19_ : Aside0 (gb546 ≠ gb530) := ⟨h19_⟩
            have n20_ : Aside0 (gb534 ≠ gb546) := ⟨h20_⟩
            have n21_ : Aside0 (gb546 ≠ gb534) := ⟨h21_⟩
            have n22_ : Aside0 (gb540 ≠ gb546) := ⟨h22_⟩
            have n23_ : Aside0 (gb546 ≠ gb540) := ⟨h23_⟩
            have n24_ : Aside0 (Below w.heap.size w w94) := ⟨h24_⟩
            clear BK517
            clear BK518
            clear BK522
            clear BK526
            clear BK530
            clear BK534
            clear BK540
            clear HB
            clear h0_ h1_ h2_ h3_ h4_ h5_ h6_ h7_ h8_ h9_ h10_ h11_ h12_ h13_ h14_ h15_ h16_ h17_ h18_ h19_ h20_ h21_ h22_ h23_ h24_
            have BK517 := n0_
            have BK518 := n1_
            have BK522 := n2_
            have BK526 := n3_
            have BK530 := n4_
            have BK534 := n5_
            have BK540 := n6_
            have BK546 := n7_
            have GW546 := n8_
            have GE546 := n9_
            have NB517_546 := n10_
            have NB546_517 := n11_
            have NB518_546 := n12_
            have NB546_518 := n13_
            have NB522_546 := n14_
            have NB546_522 := n15_
            have NB526_546 := n16_
            have NB546_526 := n17_
            have NB530_546 := n18_
            have NB546_530 := n19_
            have NB534_546 := n20_
            have NB546_534 := n21_
            have NB540_546 := n22_
            have NB546_540 := n23_
            have HB := n24_
            clear n0_ n1_ n2_ n3_ n4_ n5_ n6_ n7_ n8_ n9_ n10_ n11_ n12_ n13_ n14_ n15_ n16_ n17_ n18_ n19_ n20_ n21_ n22_ n23_ n24_
            have hHeld : w94.cell? ⟨gb517, 0, none⟩ = some (.int .i64 t513) ∧ w94.cell? ⟨gb517, 1, none⟩ = some (.string t514) ∧ w94.cell? ⟨gb518, 0, none⟩ = some (.int .i64 t515) ∧ w94.cell? ⟨gb518, 1, none⟩ = some (.string t516) := hS_
            refine norm_ (a' := ?_) ?_ ?_
            rotate_left
            ·simp only [putAll, Act.put, List.setIfInBounds_toArray, List.set_cons_zero, List.set_cons_succ]
             rfl
            refine one_ (i := 8) (N := none) #[true, true, true, true, true, true, true, true, true, false] rfl rfl (one_of HT_.out (by kernel_rfl)) (by decide) (fun K hK => ?_)
            have hs95 : w94.cell? ⟨gb546, 0, none⟩ = some (.int .i64 0) := (blk_cell BK546.out 0).trans rfl
            have hfs95 := blk_frozen BK546.out 0
            have hns95_0 := NB517_546.out
            have hns95_1 := NB518_546.out
            have hns95_2 := NB522_546.out
            have hns95_3 := NB526_546.out
            have hns95_4 := NB530_546.out
            have hns95_5 := NB534_546.out
            have hns95_6 := NB540_546.out
            have hms95_0 := NB546_517.out
            have hms95_1 := NB546_518.out
            have hms95_2 := NB546_522.out
            have hms95_3 := NB546_526.out
            have hms95_4 := NB546_530.out
            have hms95_5 := NB546_534.out
            have hms95_6 := NB546_540.out
            have hs96 : w94.cell? ⟨gb546, 1, none⟩ = some (.string (⟨#[]⟩ : ByteArray)) := (blk_cell BK546.out 1).trans rfl
            have hfs96 := blk_frozen BK546.out 1
            have hns96_0 := NB517_546.out
            have hns96_1 := NB518_546.out
            have hns96_2 := NB522_546.out
            have hns96_3 := NB526_546.out
            have hns96_4 := NB530_546.out
            have hns96_5 := NB534_546.out
            have hns96_6 := NB540_546.out
            have hms96_0 := NB546_517.out
            have hms96_1 := NB546_518.out
            have hms96_2 := NB546_522.out
            have hms96_3 := NB546_526.out
            have hms96_4 := NB546_530.out
            have hms96_5 := NB546_534.out
            have hms96_6 := NB546_540.out
            refine skip_ (w1 := ?_) (by rfl) rfl ?_ ?_
            rotate_left
            ·go_simp
             rfl
            refine hK.out _ _ ⟨((cell_far (p := ⟨gb546, _, none⟩) NB517_546.out _).trans (((cell_far (p := ⟨gb546, _, none⟩) NB517_546.out _).trans (hHeld.1)))), ((cell_far (p := ⟨gb546, _, none⟩) NB517_546.out _).trans (((cell_far (p := ⟨gb546, _, none⟩) NB517_546.out _).trans (hHeld.2.1)))), ((cell_far (p := ⟨gb546, _, none⟩) NB518_546.out _).trans (((cell_far (p := ⟨gb546, _, none⟩) NB518_546.out _).trans (hHeld.2.2.1)))), ((cell_far (p := ⟨gb546, _, none⟩) NB518_546.out _).trans (((cell_far (p := ⟨gb546, _, none⟩) NB518_546.out _).trans (hHeld.2.2.2))))⟩ (fun hHeld => ?_)
            clear hK K
            refine pure_ (i := 9) (N := some 16) (v := ?_) (a' := ?_) #[true, true, true, true, true, true, true, true, true, true] rfl rfl (any_of HT_.out (by kernel_rfl)) (fun _ _ _ h => h) (Or.inl ⟨by rfl, ?_⟩) ?_ ?_
            rotate_left
            ·intro w'
             go_simp
             with_reducible rfl
            rotate_left
            ·simp only [Act.put, List.setIfInBounds_toArray, List.set_cons_zero, List.set_cons_succ, i64_w, i32_w]
             rfl
            refine done_ (done_of HT_.out (by kernel_rfl)) ?_
            have hnb97 := NB540_517.out
            have hnc97 := NB517_540.out
            have hnb98 := NB540_518.out
            have hnc98 := NB518_540.out
            have hnb99 := NB540_522.out
            have hnc99 := NB522_540.out
            have hnb100 := NB540_526.out
            have hnc100 := NB526_540.out
            have hnb101 := NB540_530.out
            have hnc101 := NB530_540.out
            have hnb102 := NB540_534.out
            have hnc102 := NB534_540.out
            have hnb103 := NB540_546.out
            have hnc103 := NB546_540.out
            have hcz104_0 : w94.cell? ⟨gb540, 0, none⟩ = some (.int .i64 t537) := (blk_cell BK540.out 0).trans rfl
            have hcz104_1 : w94.cell? ⟨gb540, 1, none⟩ = some (.string t538) := (blk_cell BK540.out 1).trans rfl
            have hfz104_0 := blk_frozen BK540.out 0
            have hfz104_1 := blk_frozen BK540.out 1
            have hnb105 := NB546_517.out
            have hnc105 := NB517_546.out
            have hnb106 := NB546_518.out
            have hnc106 := NB518_546.out
            have hnb107 := NB546_522.out
            have hnc107 := NB522_546.out
            have hnb108 := NB546_526.out
            have hnc108 := NB526_546.out
            have hnb109 := NB546_530.out
            have hnc109 := NB530_546.out
            have hnb110 := NB546_534.out
            have hnc110 := NB534_546.out
            have hcz111_0 : w94.cell? ⟨gb546, 0, none⟩ = some (.int .i64 0) := (blk_cell BK546.out 0).trans rfl
            have hcz111_1 : w94.cell? ⟨gb546, 1, none⟩ = some (.string (⟨#[]⟩ : ByteArray)) := (blk_cell BK546.out 1).trans rfl
            have hfz111_0 := blk_frozen BK546.out 0
            have hfz111_1 := blk_frozen BK546.out 1
            try go_wp2_with (first | ((with_reducible refine gate_callee (f := 28) rfl ?_); refine goesL_ (some 85) rfl rfl Try.func28 (by kernel_rfl) rfl #[.agg #[.int .i64 t537, .string t538], .agg #[.int .i64 t543, .string t544]] rfl (by (try simp only [List.map_toArray, List.map_cons, List.map_nil]); first | done | rfl | (simp only [List.length_drop, List.length_take]; rfl)) ?_; (with_reducible refine (impl_TableXor.calls kj7 t537 t538 t543 t544 t547 t548 t549 _ A45.out).mono ?_); rintro e w112 ⟨rfl, hb⟩; refine ⟨_, rfl, ?_⟩; have n0_ := Aside0.mk (blk_below (g := gb517) (o := .cells #[.int .i64 t513, .string t514] 26 (0, 0)) (by (with_reducible repeat (first | refine blk_drewN ?_ _ | refine blk_drew ?_ | refine blk_alloc ?_ _)); refine blk_far ?_ NB517_546.out _; (with_reducible repeat (first | refine blk_drewN ?_ _ | refine blk_drew ?_ | refine blk_alloc ?_ _)); refine blk_far ?_ NB517_546.out _; (with_reducible repeat (first | refine blk_drewN ?_ _ | refine blk_drew ?_ | refine blk_alloc ?_ _)); exact BK517.out) hb); have n1_ := Aside0.mk (blk_below (g := gb518) (o := .cells #[.int .i64 t515, .string t516] 26 (0, 0)) (by (with_reducible repeat (first | refine blk_drewN ?_ _ | refine blk_drew ?_ | refine blk_alloc ?_ _)); refine blk_far ?_ NB518_546.out _; (with_reducible repeat (first | refine blk_drewN ?_ _ | refine blk_drew ?_ | refine blk_alloc ?_ _)); refine blk_far ?_ NB518_546.out _; (with_reducible repeat (first | refine blk_drewN ?_ _ | refine blk_drew ?_ | refine blk_alloc ?_ _)); exact BK518.out) hb); have n2_ := Aside0.mk (blk_below (g := gb522) (o := .cells #[.int .i64 t519, .string t520] 26 (0, 0)) (by (with_reducible repeat (first | refine blk_drewN ?_ _ | refine blk_drew ?_ | refine blk_alloc ?_ _)); refine blk_far ?_ NB522_546.out _; (with_reducible repeat (first | refine blk_drewN ?_ _ | refine blk_drew ?_ | refine blk_alloc ?_ _)); refine blk_far ?_ NB522_546.out _; (with_reducible repeat (first | refine blk_drewN ?_ _ | refine blk_drew ?_ | refine blk_alloc ?_ _)); exact BK522.out) hb); have n3_ := Aside0.mk (blk_below (g := gb526) (o := .cells #[.int .i64 t523, .string t524] 26 (0, 0)) (by (with_reducible repeat (first | refine blk_drewN ?_ _ | refine blk_drew ?_ | refine blk_alloc ?_ _)); refine blk_far ?_ NB526_546.out _; (with_reducible repeat (first | refine blk_drewN ?_ _ | refine blk_drew ?_ | refine blk_alloc ?_ _)); refine blk_far ?_ NB526_546.out _; (with_reducible repeat (first | refine blk_drewN ?_ _ | refine blk_drew ?_ | refine blk_alloc ?_ _)); exact BK526.out) hb); have n4_ := Aside0.mk (blk_below (g := gb530) (o := .cells #[.int .i64 t527, .string t528] 26 (0, 0)) (by (with_reducible repeat (first | refine blk_drewN ?_ _ | refine blk_drew ?_ | refine blk_alloc ?_ _)); refine blk_far ?_ NB530_546.out _; (with_reducible repeat (first | refine blk_drewN ?_ _ | refine blk_drew ?_ | refine blk_alloc ?_ _)); refine blk_far ?_ NB530_546.out _; (with_reducible repeat (first | refine blk_drewN ?_ _ | refine blk_drew ?_ | refine blk_alloc ?_ _)); exact BK530.out) hb); have n5_ := Aside0.mk (blk_below (g := gb534) (o := .cells #[.int .i64 t531, .string t532] 26 (0, 0)) (by (with_reducible repeat (first | refine blk_drewN ?_ _ | refine blk_drew ?_ | refine blk_alloc ?_ _)); refine blk_far ?_ NB534_546.out _; (with_reducible repeat (first | refine blk_drewN ?_ _ | refine blk_drew ?_ | refine blk_alloc ?_ _)); refine blk_far ?_ NB534_546.out _; (with_reducible repeat (first | refine blk_drewN ?_ _ | refine blk_drew ?_ | refine blk_alloc ?_ _)); exact BK534.out) hb); have n6_ := Aside0.mk (blk_below (g := gb540) (o := .cells #[.int .i64 t537, .string t538] 26 (0, 0)) (by (with_reducible repeat (first | refine blk_drewN ?_ _ | refine blk_drew ?_ | refine blk_alloc ?_ _)); refine blk_far ?_ NB540_546.out _; (with_reducible repeat (first | refine blk_drewN ?_ _ | refine blk_drew ?_ | refine blk_alloc ?_ _)); refine blk_far ?_ NB540_546.out _; (with_reducible repeat (first | refine blk_drewN ?_ _ | refine blk_drew ?_ | refine blk_alloc ?_ _)); exact BK540.out) hb); have n7_ := Aside0.mk (blk_below (g := gb546) (o := .cells #[.int .i64 t543, .string t544] 26 (0, 0)) (by (with_reducible repeat (first | refine blk_drewN ?_ _ | refine blk_drew ?_ | refine blk_alloc ?_ _)); refine blk_put (cs := #[.int .i64 t543, .string (⟨#[]⟩ : ByteArray)]) ?_ 1 _ rfl; (with_reducible repeat (first | refine blk_drewN ?_ _ | refine blk_drew ?_ | refine blk_alloc ?_ _)); refine blk_put (cs := #[.int .i64 0, .string (⟨#[]⟩ : ByteArray)]) ?_ 0 _ rfl; (with_reducible repeat (first | refine blk_drewN ?_ _ | refine blk_drew ?_ | refine blk_alloc ?_ _)); exact BK546.out) hb); have n8_ := bs HB hb; clear BK517; clear BK518; clear BK522; clear BK526; clear BK530; clear BK534; clear BK540; clear BK546; clear HB; have BK517 := n0_; have BK518 := n1_; have BK522 := n2_; have BK526 := n3_; have BK530 := n4_; have BK534 := n5_; have BK540 := n6_; have BK546 := n7_; have HB := n8_; clear n0_ n1_ n2_ n3_ n4_ n5_ n6_ n7_ n8_; (try clear hb); (try clear hb2); (try clear hk); (try clear hi)) | ((with_reducible refine gate_dst (N := 17) rfl ?_); refine box_event ?hg (N := 17) ?hd (cs := #[.int .i64 0, .string (⟨#[]⟩ : ByteArray)]) (t := 26) ?hr ?_; (case hd => rfl); (case hg => rfl); (case hr => first | (go_simp; done) | (go_simp; rfl)); intro gb550 hg w113 hbox hb; have n0_ := bb BK517 hb; have n1_ := bb BK518 hb; have n2_ := bb BK522 hb; have n3_ := bb BK526 hb; have n4_ := bb BK530 hb; have n5_ := bb BK534 hb; have n6_ := bb BK540 hb; have n7_ := bb BK546 hb; have n8_ := bs HB hb; have n9_ := Aside0.mk (hbox); have n10_ := bz hg HB; have n11_ := bz hg HB; have n12_ := nl hg BK517; have n13_ := ng hg BK517; have n14_ := nl hg BK518; have n15_ := ng hg BK518; have n16_ := nl hg BK522; have n17_ := ng hg BK522; have n18_ := nl hg BK526; have n19_ := ng hg BK526; have n20_ := nl hg BK530; have n21_ := ng hg BK530; have n22_ := nl hg BK534; have n23_ := ng hg BK534; have n24_ := nl hg BK540; have n25_ := ng hg BK540; have n26_ := nl hg BK546; have n27_ := ng hg BK546; clear BK517; clear BK518; clear BK522; clear BK526; clear BK530; clear BK534; clear BK540; clear BK546; clear HB; have BK517 := n0_; have BK518 := n1_; have BK522 := n2_; have BK526 := n3_; have BK530 := n4_; have BK534 := n5_; have BK540 := n6_; have BK546 := n7_; have HB := n8_; have BK550 := n9_; have GW550 := n10_; have GE550 := n11_; have NB517_550 := n12_; have NB550_517 := n13_; have NB518_550 := n14_; have NB550_518 := n15_; have NB522_550 := n16_; have NB550_522 := n17_; have NB526_550 := n18_; have NB550_526 := n19_; have NB530_550 := n20_; have NB550_530 := n21_; have NB534_550 := n22_; have NB550_534 := n23_; have NB540_550 := n24_; have NB550_540 := n25_; have NB546_550 := n26_; have NB550_546 := n27_; clear n0_ n1_ n2_ n3_ n4_ n5_ n6_ n7_ n8_ n9_ n10_ n11_ n12_ n13_ n14_ n15_ n16_ n17_ n18_ n19_ n20_ n21_ n22_ n23_ n24_ n25_ n26_ n27_; clear hb hbox hg; have hnb114 := NB550_517.out; have hnc114 := NB517_550.out; have hnb115 := NB550_518.out; have hnc115 := NB518_550.out; have hnb116 := NB550_522.out; have hnc116 := NB522_550.out; have hnb117 := NB550_526.out; have hnc117 := NB526_550.out; have hnb118 := NB550_530.out; have hnc118 := NB530_550.out; have hnb119 := NB550_534.out; have hnc119 := NB534_550.out; have hnb120 := NB550_540.out; have hnc120 := NB540_550.out; have hnb121 := NB550_546.out; have hnc121 := NB546_550.out; have hcz122_0 : w113.cell? ⟨gb550, 0, none⟩ = some (.int .i64 0) := (blk_cell BK550.out 0).trans rfl; have hcz122_1 : w113.cell? ⟨gb550, 1, none⟩ = some (.string (⟨#[]⟩ : ByteArray)) := (blk_cell BK550.out 1).trans rfl; have hfz122_0 := blk_frozen BK550.out 0; have hfz122_1 := blk_frozen BK550.out 1))
            have n0_ : Aside0 (((w113.setCell ⟨gb550, 0, none⟩ (.int .i64 t547)).setCell ⟨gb550, 1, none⟩ (.string t548)).heap[gb517]? = some (.cells #[.int .i64 t513, .string t514] 26 (0, 0))) := ⟨by (with_reducible repeat (first | refine blk_drewN ?_ _ | refine blk_drew ?_ | refine blk_alloc ?_ _)); refine blk_far ?_ NB517_550.out _; (with_reducible repeat (first | refine blk_drewN ?_ _ | refine blk_drew ?_ | refine blk_alloc ?_ _)); refine blk_far ?_ NB517_550.out _; (with_reducible repeat (first | refine blk_drewN ?_ _ | refine blk_drew ?_ | refine blk_alloc ?_ _)); exact BK517.out⟩
            have n1_ : Aside0 (((w113.setCell ⟨gb550, 0, none⟩ (.int .i64 t547)).setCell ⟨gb550, 1, none⟩ (.string t548)).heap[gb518]? = some (.cells #[.int .i64 t515, .string t516] 26 (0, 0))) := ⟨by (with_reducible repeat (first | refine blk_drewN ?_ _ | refine blk_drew ?_ | refine blk_alloc ?_ _)); refine blk_far ?_ NB518_550.out _; (with_reducible repeat (first | refine blk_drewN ?_ _ | refine blk_drew ?_ | refine blk_alloc ?_ _)); refine blk_far ?_ NB518_550.out _; (with_reducible repeat (first | refine blk_drewN ?_ _ | refine blk_drew ?_ | refine blk_alloc ?_ _)); exact BK518.out⟩
            have n2_ : Aside0 (((w113.setCell ⟨gb550, 0, none⟩ (.int .i64 t547)).setCell ⟨gb550, 1, none⟩ (.string t548)).heap[gb522]? = some (.cells #[.int .i64 t519, .string t520] 26 (0, 0))) := ⟨by (with_reducible repeat (first | refine blk_drewN ?_ _ | refine blk_drew ?_ | refine blk_alloc ?_ _)); refine blk_far ?_ NB522_550.out _; (with_reducible repeat (first | refine blk_drewN ?_ _ | refine blk_drew ?_ | refine blk_alloc ?_ _)); refine blk_far ?_ NB522_550.out _; (with_reducible repeat (first | refine blk_drewN ?_ _ | refine blk_drew ?_ | refine blk_alloc ?_ _)); exact BK522.out⟩
            have n3_ : Aside0 (((w113.setCell ⟨gb550, 0, none⟩ (.int .i64 t547)).setCell ⟨gb550, 1, none⟩ (.string t548)).heap[gb526]? = some (.cells #[.int .i64 t523, .string t524] 26 (0, 0))) := ⟨by (with_reducible repeat (first | refine blk_drewN ?_ _ | refine blk_drew ?_ | refine blk_alloc ?_ _)); refine blk_far ?_ NB526_550.out _; (with_reducible repeat (first | refine blk_drewN ?_ _ | refine blk_drew ?_ | refine blk_alloc ?_ _)); refine blk_far ?_ NB526_550.out _; (with_reducible repeat (first | refine blk_drewN ?_ _ | refine blk_drew ?_ | refine blk_alloc ?_ _)); exact BK526.out⟩
            have n4_ : Aside0 (((w113.setCell ⟨gb550, 0, none⟩ (.int .i64 t547)).setCell ⟨gb550, 1, none⟩ (.string t548)).heap[gb530]? = some (.cells #[.int .i64 t527, .string t528] 26 (0, 0))) := ⟨by (with_reducible repeat (first | refine blk_drewN ?_ _ | refine blk_drew ?_ | refine blk_alloc ?_ _)); refine blk_far ?_ NB530_550.out _; (with_reducible repeat (first | refine blk_drewN ?_ _ | refine blk_drew ?_ | refine blk_alloc ?_ _)); refine blk_far ?_ NB530_550.out _; (with_reducible repeat (first | refine blk_drewN ?_ _ | refine blk_drew ?_ | refine blk_alloc ?_ _)); exact BK530.out⟩
            have n5_ : Aside0 (((w113.setCell ⟨gb550, 0, none⟩ (.int .i64 t547)).setCell ⟨gb550, 1, none⟩ (.string t548)).heap[gb534]? = some (.cells #[.int .i64 t531, .string t532] 26 (0, 0))) := ⟨by (with_reducible repeat (first | refine blk_drewN ?_ _ | refine blk_drew ?_ | refine blk_alloc ?_ _)); refine blk_far ?_ NB534_550.out _; (with_reducible repeat (first | refine blk_drewN ?_ _ | refine blk_drew ?_ | refine blk_alloc ?_ _)); refine blk_far ?_ NB534_550.out _; (with_reducible repeat (first | refine blk_drewN ?_ _ | refine blk_drew ?_ | refine blk_alloc ?_ _)); exact BK534.out⟩
            have n6_ : Aside0 (((w113.setCell ⟨gb550, 0, none⟩ (.int .i64 t547)).setCell ⟨gb550, 1, none⟩ (.string t548)).heap[gb540]? = some (.cells #[.int .i64 t537, .string t538] 26 (0, 0))) := ⟨by (with_reducible repeat (first | refine blk_drewN ?_ _ | refine blk_drew ?_ | refine blk_alloc ?_ _)); refine blk_far ?_ NB540_550.out _; (with_reducible repeat (first | refine blk_drewN ?_ _ | refine blk_drew ?_ | refine blk_alloc ?_ _)); refine blk_far ?_ NB540_550.out _; (with_reducible repeat (first | refine blk_drewN ?_ _ | refine blk_drew ?_ | refine blk_alloc ?_ _)); exact BK540.out⟩
            have n7_ : Aside0 (((w113.setCell ⟨gb550, 0, none⟩ (.int .i64 t547)).setCell ⟨gb550, 1, none⟩ (.string t548)).heap[gb546]? = some (.cells #[.int .i64 t543, .string t544] 26 (0, 0))) := ⟨by (with_reducible repeat (first | refine blk_drewN ?_ _ | refine blk_drew ?_ | refine blk_alloc ?_ _)); refine blk_far ?_ NB546_550.out _; (with_reducible repeat (first | refine blk_drewN ?_ _ | refine blk_drew ?_ | refine blk_alloc ?_ _)); refine blk_far ?_ NB546_550.out _; (with_reducible repeat (first | refine blk_drewN ?_ _ | refine blk_drew ?_ | refine blk_alloc ?_ _)); exact BK546.out⟩
            have n8_ : Aside0 (((w113.setCell ⟨gb550, 0, none⟩ (.int .i64 t547)).setCell ⟨gb550, 1, none⟩ (.string t548)).heap[gb550]? = some (.cells #[.int .i64 t547, .string t548] 26 (0, 0))) := ⟨by (with_reducible repeat (first | refine blk_drewN ?_ _ | refine blk_drew ?_ | refine blk_alloc ?_ _)); refine blk_put (cs := #[.int .i64 t547, .string (⟨#[]⟩ : ByteArray)]) ?_ 1 _ rfl; (with_reducible repeat (first | refine blk_drewN ?_ _ | refine blk_drew ?_ | refine blk_alloc ?_ _)); refine blk_put (cs := #[.int .i64 0, .string (⟨#[]⟩ : ByteArray)]) ?_ 0 _ rfl; (with_reducible repeat (first | refine blk_drewN ?_ _ | refine blk_drew ?_ | refine blk_alloc ?_ _)); exact BK550.out⟩
            have n9_ : Aside0 (Below w.heap.size w ((w113.setCell ⟨gb550, 0, none⟩ (.int .i64 t547)).setCell ⟨gb550, 1, none⟩ (.string t548))) := ⟨by repeat (first | (with_reducible first | exact HB.out | apply below_alloc | apply pw_below_drewN | apply below_drew1 | refine below_set ?_ GE517.out | refine below_set ?_ GE518.out | refine below_set ?_ GE522.out | refine below_set ?_ GE526.out | refine below_set ?_ GE530.out | refine below_set ?_ GE534.out | refine below_set ?_ GE540.out | refine below_set ?_ GE546.out | refine below_set ?_ GE550.out) | exact HB.out)⟩
            (try clear BK517)
            (try clear BK518)
            (try clear BK522)
            (try clear BK526)
            (try clear BK530)
            (try clear BK534)
            (try clear BK540)
            (try clear BK546)
            (try clear BK550)
            (try clear HB)
            generalize ((w113.setCell ⟨gb550, 0, none⟩ (.int .i64 t547)).setCell ⟨gb550, 1, none⟩ (.string t548)) = w123 at n0_ n1_ n2_ n3_ n4_ n5_ n6_ n7_ n8_ n9_ ⊢
            have BK517 := n0_
            have BK518 := n1_
            have BK522 := n2_
            have BK526 := n3_
            have BK530 := n4_
            have BK534 := n5_
            have BK540 := n6_
            have BK546 := n7_
            have BK550 := n8_
            have HB := n9_
            clear n0_ n1_ n2_ n3_ n4_ n5_ n6_ n7_ n8_ n9_
            have n0_ := Aside0.mk (blk_drew BK517.out)
            have n1_ := Aside0.mk (blk_drew BK518.out)
            have n2_ := Aside0.mk (blk_drew BK522.out)
            have n3_ := Aside0.mk (blk_drew BK526.out)
            have n4_ := Aside0.mk (blk_drew BK530.out)
            have n5_ := Aside0.mk (blk_drew BK534.out)
            have n6_ := Aside0.mk (blk_drew BK540.out)
            have n7_ := Aside0.mk (blk_drew BK546.out)
            have n8_ := Aside0.mk (blk_drew BK550.out)
            have n9_ := Aside0.mk (below_drew1 HB.out)
            clear BK517
            clear BK518
            clear BK522
            clear BK526
            clear BK530
            clear BK534
            clear BK540
            clear BK546
            clear BK550
            clear HB
            have BK517 := n0_
            have BK518 := n1_
            have BK522 := n2_
            have BK526 := n3_
            have BK530 := n4_
            have BK534 := n5_
            have BK540 := n6_
            have BK546 := n7_
            have BK550 := n8_
            have HB := n9_
            clear n0_ n1_ n2_ n3_ n4_ n5_ n6_ n7_ n8_ n9_
            refine start_ (n := 54) (S := fun w' => w'.cell? ⟨gb534, 0, none⟩ = some (.int .i64 t531) ∧ w'.cell? ⟨gb534, 1, none⟩ = some (.string t532) ∧ w'.cell? ⟨gb517, 0, none⟩ = some (.int .i64 t513) ∧ w'.cell? ⟨gb517, 1, none⟩ = some (.string t514) ∧ w'.cell? ⟨gb550, 0, none⟩ = some (.int .i64 t547) ∧ w'.cell? ⟨gb550, 1, none⟩ = some (.string t548) ∧ w'.cell? ⟨gb526, 0, none⟩ = some (.int .i64 t523) ∧ w'.cell? ⟨gb526, 1, none⟩ = some (.string t524) ∧ w'.cell? ⟨gb518, 0, none⟩ = some (.int .i64 t515) ∧ w'.cell? ⟨gb518, 1, none⟩ = some (.string t516) ∧ w'.cell? ⟨gb522, 0, none⟩ = some (.int .i64 t519) ∧ w'.cell? ⟨gb522, 1, none⟩ = some (.string t520) ∧ w'.cell? ⟨gb540, 0, none⟩ = some (.int .i64 t537) ∧ w'.cell? ⟨gb540, 1, none⟩ = some (.string t538) ∧ w'.cell? ⟨gb546, 0, none⟩ = some (.int .i64 t543) ∧ w'.cell? ⟨gb546, 1, none⟩ = some (.string t544)) (ds := []) #[false, false, false, false, false, false, false, false, false, false, false, false, false, false, false, false, false, false, false, false, false, false, false, false, false, false, false, false, false, false, false, false, false, false, false, false, false, false, false, false, false, false, false, false, false, false, false, false, false, false, false, false, false, false] (by kernel_rfl) rfl rfl ⟨(blk_cell BK534.out 0).trans rfl, (blk_cell BK534.out 1).trans rfl, (blk_cell BK517.out 0).trans rfl, (blk_cell BK517.out 1).trans rfl, (blk_cell BK550.out 0).trans rfl, (blk_cell BK550.out 1).trans rfl, (blk_cell BK526.out 0).trans rfl, (blk_cell BK526.out 1).trans rfl, (blk_cell BK518.out 0).trans rfl, (blk_cell BK518.out 1).trans rfl, (blk_cell BK522.out 0).trans rfl, (blk_cell BK522.out 1).trans rfl, (blk_cell BK540.out 0).trans rfl, (blk_cell BK540.out 1).trans rfl, (blk_cell BK546.out 0).trans rfl, (blk_cell BK546.out 1).trans rfl⟩ (fun hHeld => ?_); refine with_tabW laws_FnLogic.tab15 laws_FnLogic.bits15 (fun HT_ HW_ => ?_)
            generalize w123.drew = w124 at BK517 BK518 BK522 BK526 BK530 BK534 BK540 BK546 BK550 HB hHeld ⊢
            refine take_ (i := 0) (N := some 88) (v := ?_) (a' := ?_) #[true, false, false, false, false, false, false, false, false, false, false, false, false, false, false, false, false, false, false, false, false, false, false, false, false, false, false, false, false, false, false, false, false, false, false, false, false, false, false, false, false, false, false, false, false, false, false, false, false, false, false, false, false, false] rfl rfl (take_ofW HT_.out HW_.out (by kernel_rfl)) (fun _ _ _ h => h) (Or.inl ⟨by rfl, ?_⟩) hHeld ?_ ?_
            rotate_left
            ·rintro w' ⟨s0, s1, s2, s3, s4, s5, s6, s7, s8, s9, s10, s11, s12, s13, s14, s15⟩
             go_simp
             with_reducible rfl
            rotate_left
            ·simp only [Act.put, List.setIfInBounds_toArray, List.set_cons_zero, List.set_cons_succ, i64_w, i32_w]
             rfl
            refine take_ (i := 1) (N := some 89) (v := ?_) (a' := ?_) #[true, true, false, false, false, false, false, false, false, false, false, false, false, false, false, false, false, false, false, false, false, false, false, false, false, false, false, false, false, false, false, false, false, false, false, false, false, false, false, false, false, false, false, false, false, false, false, false, false, false, false, false, false, false] rfl rfl (take_ofW HT_.out HW_.out (by kernel_rfl)) (fun _ _ _ h => h) (Or.inl ⟨by rfl, ?_⟩) hHeld ?_ ?_
            rotate_left
            ·rintro w' ⟨s0, s1, s2, s3, s4, s5, s6, s7, s8, s9, s10, s11, s12, s13, s14, s15⟩
             go_simp
             with_reducible rfl
            rotate_left
            ·simp only [Act.put, List.setIfInBounds_toArray, List.set_cons_zero, List.set_cons_succ, i64_w, i32_w]
             rfl
            refine pure_ (i := 2) (N := some 90) (v := ?_) (a' := ?_) #[true, true, true, false, false, false, false, false, false, false, false, false, false, false, false, false, false, false, false, false, false, false, false, false, false, false, false, false, false, false, false, false, false, false, false, false, false, false, false, false, false, false, false, false, false, false, false, false, false, false, false, false, false, false] rfl rfl (any_of HT_.out (by kernel_rfl)) (fun _ _ _ h => h) (Or.inl ⟨by rfl, ?_⟩) ?_ ?_
            rotate_left
            ·intro w'
             go_simp
             with_reducible rfl
            rotate_left
            ·simp only [Act.put, List.setIfInBounds_toArray, List.set_cons_zero, List.set_cons_succ, i64_w, i32_w]
             rfl
            refine pure_ (i := 3) (N := some 91) (v := ?_) (a' := ?_) #[true, true, true, true, false, false, false, false, false, false, false, false, false, false, false, false, false, false, false, false, false, false, false, false, false, false, false, false, false, false, false, false, false, false, false, false, false, false, false, false, false, false, false, false, false, false, false, false, false, false, false, false, false, false] rfl rfl (any_of HT_.out (by kernel_rfl)) (fun _ _ _ h => h) (Or.inl ⟨by rfl, ?_⟩) ?_ ?_
            rotate_left
            ·intro w'
             go_simp
             with_reducible rfl
            rotate_left
            ·simp only [Act.put, List.setIfInBounds_toArray, List.set_cons_zero, List.set_cons_succ, i64_w, i32_w]
             rfl
            refine take_ (i := 4) (N := some 92) (v := ?_) (a' := ?_) #[true, true, true, true, true, false, false, false, false, false, false, false, false, false, false, false, false, false, false, false, false, false, false, false, false, false, false, false, false, false, false, false, false, false, false, false, false, false, false, false, false, false, false, false, false, false, false, false, false, false, false, false, false, false] rfl rfl (take_ofW HT_.out HW_.out (by kernel_rfl)) (fun _ _ _ h => h) (Or.inl ⟨by rfl, ?_⟩) hHeld ?_ ?_
            rotate_left
            ·rintro w' ⟨s0, s1, s2, s3, s4, s5, s6, s7, s8, s9, s10, s11, s12, s13, s14, s15⟩
             go_simp
             with_reducible rfl
            rotate_left
            ·simp only [Act.put, List.setIfInBounds_toArray, List.set_cons_zero, List.set_cons_succ, i64_w, i32_w]
             rfl
            refine take_ (i := 5) (N := some 93) (v := ?_) (a' := ?_) #[true, true, true, true, true, true, false, false, false, false, false, false, false, false, false, false, false, false, false, false, false, false, false, false, false, false, false, false, false, false, false, false, false, false, false, false, false, false, false, false, false, false, false, false, false, false, false, false, false, false, false, false, false, false] rfl rfl (take_ofW HT_.out HW_.out (by kernel_rfl)) (fun _ _ _ h => h) (Or.inl ⟨by rfl, ?_⟩) hHeld ?_ ?_
            rotate_left
            ·rintro w' ⟨s0, s1, s2, s3, s4, s5, s6, s7, s8, s9, s10, s11, s12, s13, s14, s15⟩
             go_simp
             with_reducible rfl
            rotate_left
            ·simp only [Act.put, List.setIfInBounds_toArray, List.set_cons_zero, List.set_cons_succ, i64_w, i32_w]
             rfl
            refine pure_ (i := 6) (N := some 94) (v := ?_) (a' := ?_) #[true, true, true, true, true, true, true, false, false, false, false, false, false, false, false, false, false, false, false, false, false, false, false, false, false, false, false, false, false, false, false, false, false, false, false, false, false, false, false, false, false, false, false, false, false, false, false, false, false, false, false, false, false, false] rfl rfl (any_of HT_.out (by kernel_rfl)) (fun _ _ _ h => h) (Or.inl ⟨by rfl, ?_⟩) ?_ ?_
            rotate_left
            ·intro w'
             go_simp
             with_reducible rfl
            rotate_left
            ·simp only [Act.put, List.setIfInBounds_toArray, List.set_cons_zero, List.set_cons_succ, i64_w, i32_w]
             rfl
            refine pure_ (i := 7) (N := some 95) (v := ?_) (a' := ?_) #[true, true, true, true, true, true, true, true, false, false, false, false, false, false, false, false, false, false, false, false, false, false, false, false, false, false, false, false, false, false, false, false, false, false, false, false, false, false, false, false, false, false, false, false, false, false, false, false, false, false, false, false, false, false] rfl rfl (any_of HT_.out (by kernel_rfl)) (fun _ _ _ h => h) (Or.inl ⟨by rfl, ?_⟩) ?_ ?_
            rotate_left
            ·intro w'
             go_simp
             with_reducible rfl
            rotate_left
            ·simp only [Act.put, List.setIfInBounds_toArray, List.set_cons_zero, List.set_cons_succ, i64_w, i32_w]
             rfl
            refine pure_ (i := 8) (N := some 96) (v := ?_) (a' := ?_) #[true, true, true, true, true, true, true, true, true, false, false, false, false, false, false, false, false, false, false, false, false, false, false, false, false, false, false, false, false, false, false, false, false, false, false, false, false, false, false, false, false, false, false, false, false, false, false, false, false, false, false, false, false, false] rfl rfl (any_of HT_.out (by kernel_rfl)) (fun _ _ _ h => h) (Or.inl ⟨by rfl, ?_⟩) ?_ ?_
            rotate_left
            ·intro w'
             go_simp
             with_reducible rfl
            rotate_left
            ·simp only [Act.put, List.setIfInBounds_toArray, List.set_cons_zero, List.set_cons_succ, i64_w, i32_w]
             rfl
            refine take_ (i := 9) (N := some 97) (v := ?_) (a' := ?_) #[true, true, true, true, true, true, true, true, true, true, false, false, false, false, false, false, false, false, false, false, false, false, false, false, false, false, false, false, false, false, false, false, false, false, false, false, false, false, false, false, false, false, false, false, false, false, false, false, false, false, false, false, false, false] rfl rfl (take_ofW HT_.out HW_.out (by kernel_rfl)) (fun _ _ _ h => h) (Or.inl ⟨by rfl, ?_⟩) hHeld ?_ ?_
            rotate_left
            ·rintro w' ⟨s0, s1, s2, s3, s4, s5, s6, s7, s8, s9, s10, s11, s12, s13, s14, s15⟩
             go_simp
             with_reducible rfl
            rotate_left
            ·simp only [Act.put, List.setIfInBounds_toArray, List.set_cons_zero, List.set_cons_succ, i64_w, i32_w]
             rfl
            refine take_ (i := 12) (N := some 100) (v := ?_) (a' := ?_) #[true, true, true, true, true, true, true, true, true, true, false, false, true, false, false, false, false, false, false, false, false, false, false, false, false, false, false, false, false, false, false, false, false, false, false, false, false, false, false, false, false, false, false, false, false, false, false, false, false, false, false, false, false, false] rfl rfl (take_ofW HT_.out HW_.out (by kernel_rfl)) (fun _ _ _ h => h) (Or.inl ⟨by rfl, ?_⟩) hHeld ?_ ?_
            rotate_left
            ·rintro w' ⟨s0, s1, s2, s3, s4, s5, s6, s7, s8, s9, s10, s11, s12, s13, s14, s15⟩
             go_simp
             with_reducible rfl
            rotate_left
            ·simp only [Act.put, List.setIfInBounds_toArray, List.set_cons_zero, List.set_cons_succ, i64_w, i32_w]
             rfl
            refine one_ (i := 10) (N := some 98) #[true, true, true, true, true, true, true, true, true, true, true, false, true, false, false, false, false, false, false, false, false, false, false, false, false, false, false, false, false, false, false, false, false, false, false, false, false, false, false, false, false, false, false, false, false, false, false, false, false, false, false, false, false, false] rfl rfl (one_of HT_.out (by kernel_rfl)) (by decide) (fun K hK => ?_)
            refine goes_ Try.func30 (by kernel_rfl) rfl #[.agg #[.int .i64 t513, .string t514]] (by rfl) rfl rfl (by (try simp only [List.map_toArray, List.map_cons, List.map_nil]); first | done | rfl | (simp only [List.length_drop, List.length_take]; rfl)) ?_
            with_reducible refine (impl_TableNot.calls kj7 t513 t514 t551 t552 _ A48.out).mono ?_
            rintro e w125 ⟨rfl, hb⟩
            refine ⟨_, rfl, ?_⟩
            have n0_ := bb BK517 hb
            have n1_ := bb BK518 hb
            have n2_ := bb BK522 hb
            have n3_ := bb BK526 hb
            have n4_ := bb BK530 hb
            have n5_ := bb BK534 hb
            have n6_ := bb BK540 hb
            have n7_ := bb BK546 hb
            have n8_ := bb BK550 hb
            have n9_ := bs HB hb
            clear BK517
            clear BK518
            clear BK522
            clear BK526
            clear BK530
            clear BK534
            clear BK540
            clear BK546
            clear BK550
            clear HB
            have BK517 := n0_
            have BK518 := n1_
            have BK522 := n2_
            have BK526 := n3_
            have BK530 := n4_
            have BK534 := n5_
            have BK540 := n6_
            have BK546 := n7_
            have BK550 := n8_
            have HB := n9_
            clear n0_ n1_ n2_ n3_ n4_ n5_ n6_ n7_ n8_ n9_
            (try clear hb)
            (try clear hb2)
            (try clear hk)
            (try clear hi)
            refine hK.out _ _ ⟨(blk_cell BK534.out 0).trans rfl, (blk_cell BK534.out 1).trans rfl, (blk_cell BK517.out 0).trans rfl, (blk_cell BK517.out 1).trans rfl, (blk_cell BK550.out 0).trans rfl, (blk_cell BK550.out 1).trans rfl, (blk_cell BK526.out 0).trans rfl, (blk_cell BK526.out 1).trans rfl, (blk_cell BK518.out 0).trans rfl, (blk_cell BK518.out 1).trans rfl, (blk_cell BK522.out 0).trans rfl, (blk_cell BK522.out 1).trans rfl, (blk_cell BK540.out 0).trans rfl, (blk_cell BK540.out 1).trans rfl, (blk_cell BK546.out 0).trans rfl, (blk_cell BK546.out 1).trans rfl⟩ (fun hHeld => ?_)
            clear hK K
            refine norm_ (a' := ?_) ?_ ?_
            rotate_left
            ·show Act.put _ (some 98) _ = _
             simp only [Act.put, List.setIfInBounds_toArray, List.set_cons_zero, List.set_cons_succ, i64_w, i32_w]
             rfl
            refine one_ (i := 11) (N := some 99) #[true, true, true, true, true, true, true, true, true, true, true, true, true, false, false, false, false, false, false, false, false, false, false, false, false, false, false, false, false, false, false, false, false, false, false, false, false, false, false, false, false, false, false, false, false, false, false, false, false, false, false, false, false, false] rfl rfl (one_of HT_.out (by kernel_rfl)) (by decide) (fun K hK => ?_)
            refine goes_ Try.func30 (by kernel_rfl) rfl #[.agg #[.int .i64 t551, .string t552]] (by rfl) rfl rfl (by (try simp only [List.map_toArray, List.map_cons, List.map_nil]); first | done | rfl | (simp only [List.length_drop, List.length_take]; rfl)) ?_
            with_reducible refine (impl_TableNot.calls kj7 t551 t552 t553 t554 _ A49.out).mono ?_
            rintro e w126 ⟨rfl, hb⟩
            refine ⟨_, rfl, ?_⟩
            have n0_ := bb BK517 hb
            have n1_ := bb BK518 hb
            have n2_ := bb BK522 hb
            have n3_ := bb BK526 hb
            have n4_ := bb BK530 hb
            have n5_ := bb BK534 hb
            have n6_ := bb BK540 hb
            have n7_ := bb BK546 hb
            have n8_ := bb BK550 hb
            have n9_ := bs HB hb
            clear BK517
            clear BK518
            clear BK522
            clear BK526
            clear BK530
            clear BK534
            clear BK540
            clear BK546
            clear BK550
            clear HB
            have BK517 := n0_
            have BK518 := n1_
            have BK522 := n2_
            have BK526 := n3_
            have BK530 := n4_
            have BK534 := n5_
            have BK540 := n6_
            have BK546 := n7_
            have BK550 := n8_
            have HB := n9_
            clear n0_ n1_ n2_ n3_ n4_ n5_ n6_ n7_ n8_ n9_
            (try clear hb)
            (try clear hb2)
            (try clear hk)
            (try clear hi)
            refine hK.out _ _ ⟨(blk_cell BK534.out 0).trans rfl, (blk_cell BK534.out 1).trans rfl, (blk_cell BK517.out 0).trans rfl, (blk_cell BK517.out 1).trans rfl, (blk_cell BK550.out 0).trans rfl, (blk_cell BK550.out 1).trans rfl, (blk_cell BK526.out 0).trans rfl, (blk_cell BK526.out 1).trans rfl, (blk_cell BK518.out 0).trans rfl, (blk_cell BK518.out 1).trans rfl, (blk_cell BK522.out 0).trans rfl, (blk_cell BK522.out 1).trans rfl, (blk_cell BK540.out 0).trans rfl, (blk_cell BK540.out 1).trans rfl, (blk_cell BK546.out 0).trans rfl, (blk_cell BK546.out 1).trans rfl⟩ (fun hHeld => ?_)
            clear hK K
            refine norm_ (a' := ?_) ?_ ?_
            rotate_left
            ·show Act.put _ (some 99) _ = _
             simp only [Act.put, List.setIfInBounds_toArray, List.set_cons_zero, List.set_cons_succ, i64_w, i32_w]
             rfl
            refine pure_ (i := 13) (N := some 101) (v := ?_) (a' := ?_) #[true, true, true, true, true, true, true, true, true, true, true, true, true, true, false, false, false, false, false, false, false, false, false, false, false, false, false, false, false, false, false, false, false, false, false, false, false, false, false, false, false, false, false, false, false, false, false, false, false, false, false, false, false, false] rfl rfl (any_of HT_.out (by kernel_rfl)) (fun _ _ _ h => h) (Or.inl ⟨by rfl, ?_⟩) ?_ ?_
            rotate_left
            ·intro w'
             go_simp
             with_reducible rfl
            rotate_left
            ·simp only [Act.put, List.setIfInBounds_toArray, List.set_cons_zero, List.set_cons_succ, i64_w, i32_w]
             rfl
            refine pure_ (i := 14) (N := some 102) (v := ?_) (a' := ?_) #[true, true, true, true, true, true, true, true, true, true, true, true, true, true, true, false, false, false, false, false, false, false, false, false, false, false, false, false, false, false, false, false, false, false, false, false, false, false, false, false, false, false, false, false, false, false, false, false, false, false, false, false, false, false] rfl rfl (any_of HT_.out (by kernel_rfl)) (fun _ _ _ h => h) (Or.inl ⟨by rfl, ?_⟩) ?_ ?_
            rotate_left
            ·intro w'
             go_simp
             with_reducible rfl
            rotate_left
            ·simp only [Act.put, List.setIfInBounds_toArray, List.set_cons_zero, List.set_cons_succ, i64_w, i32_w]
             rfl
            refine pure_ (i := 15) (N := some 103) (v := ?_) (a' := ?_) #[true, true, true, true, true, true, true, true, true, true, true, true, true, true, true, true, false, false, false, false, false, false, false, false, false, false, false, false, false, false, false, false, false, false, false, false, false, false, false, false, false, false, false, false, false, false, false, false, false, false, false, false, false, false] rfl rfl (any_of HT_.out (by kernel_rfl)) (fun _ _ _ h => h) (Or.inl ⟨by rfl, ?_⟩) ?_ ?_
            rotate_left
            ·intro w'
             go_simp
             with_reducible rfl
            rotate_left
            ·simp only [Act.put, List.setIfInBounds_toArray, List.set_cons_zero, List.set_cons_succ, i64_w, i32_w]
             rfl
            refine take_ (i := 16) (N := some 104) (v := ?_) (a' := ?_) #[true, true, true, true, true, true, true, true, true, true, true, true, true, true, true, true, true, false, false, false, false, false, false, false, false, false, false, false, false, false, false, false, false, false, false, false, false, false, false, false, false, false, false, false, false, false, false, false, false, false, false, false, false, false] rfl rfl (take_ofW HT_.out HW_.out (by kernel_rfl)) (fun _ _ _ h => h) (Or.inl ⟨by rfl, ?_⟩) hHeld ?_ ?_
            rotate_left
            ·rintro w' ⟨s0, s1, s2, s3, s4, s5, s6, s7, s8, s9, s10, s11, s12, s13, s14, s15⟩
             go_simp
             with_reducible rfl
            rotate_left
            ·simp only [Act.put, List.setIfInBounds_toArray, List.set_cons_zero, List.set_cons_succ, i64_w, i32_w]
             rfl
            refine take_ (i := 18) (N := some 106) (v := ?_) (a' := ?_) #[true, true, true, true, true, true, true, true, true, true, true, true, true, true, true, true, true, false, true, false, false, false, false, false, false, false, false, false, false, false, false, false, false, false, false, false, false, false, false, false, false, false, false, false, false, false, false, false, false, false, false, false, false, false] rfl rfl (take_ofW HT_.out HW_.out (by kernel_rfl)) (fun _ _ _ h => h) (Or.inl ⟨by rfl, ?_⟩) hHeld ?_ ?_
            rotate_left
            ·rintro w' ⟨s0, s1, s2, s3, s4, s5, s6, s7, s8, s9, s10, s11, s12, s13, s14, s15⟩
             go_simp
             with_reducible rfl
            rotate_left
            ·simp only [Act.put, List.setIfInBounds_toArray, List.set_cons_zero, List.set_cons_succ, i64_w, i32_w]
             rfl
            refine one_ (i := 17) (N := some 105) #[true, true, true, true, true, true, true, true, true, true, true, true, true, true, true, true, true, true, true, false, false, false, false, false, false, false, false, false, false, false, false, false, false, false, false, false, false, false, false, false, false, false, false, false, false, false, false, false, false, false, false, false, false, false] rfl rfl (one_of HT_.out (by kernel_rfl)) (by decide) (fun K hK => ?_)
            refine goes_ Try.func25 (by kernel_rfl) rfl #[.agg #[.int .i64 t513, .string t514]] (by rfl) rfl rfl (by (try simp only [List.map_toArray, List.map_cons, List.map_nil]); first | done | rfl | (simp only [List.length_drop, List.length_take]; rfl)) ?_
            with_reducible refine (impl_TableKey.calls kj7 t513 t514 t555 _ A51.out).mono ?_
            rintro e w127 ⟨rfl, hb⟩
            refine ⟨_, rfl, ?_⟩
            have n0_ := bb BK517 hb
            have n1_ := bb BK518 hb
            have n2_ := bb BK522 hb
            have n3_ := bb BK526 hb
            have n4_ := bb BK530 hb
            have n5_ := bb BK534 hb
            have n6_ := bb BK540 hb
            have n7_ := bb BK546 hb
            have n8_ := bb BK550 hb
            have n9_ := bs HB hb
            clear BK517
            clear BK518
            clear BK522
            clear BK526
            clear BK530
            clear BK534
            clear BK540
            clear BK546
            clear BK550
            clear HB
            have BK517 := n0_
            have BK518 := n1_
            have BK522 := n2_
            have BK526 := n3_
            have BK530 := n4_
            have BK534 := n5_
            have BK540 := n6_
            have BK546 := n7_
            have BK550 := n8_
            have HB := n9_
            clear n0_ n1_ n2_ n3_ n4_ n5_ n6_ n7_ n8_ n9_
            (try clear hb)
            (try clear hb2)
            (try clear hk)
            (try clear hi)
            refine hK.out _ _ ⟨(blk_cell BK534.out 0).trans rfl, (blk_cell BK534.out 1).trans rfl, (blk_cell BK517.out 0).trans rfl, (blk_cell BK517.out 1).trans rfl, (blk_cell BK550.out 0).trans rfl, (blk_cell BK550.out 1).trans rfl, (blk_cell BK526.out 0).trans rfl, (blk_cell BK526.out 1).trans rfl, (blk_cell BK518.out 0).trans rfl, (blk_cell BK518.out 1).trans rfl, (blk_cell BK522.out 0).trans rfl, (blk_cell BK522.out 1).trans rfl, (blk_cell BK540.out 0).trans rfl, (blk_cell BK540.out 1).trans rfl, (blk_cell BK546.out 0).trans rfl, (blk_cell BK546.out 1).trans rfl⟩ (fun hHeld => ?_)
            clear hK K
            refine norm_ (a' := ?_) ?_ ?_
            rotate_left
            ·show Act.put _ (some 105) _ = _
             simp only [Act.put, List.setIfInBounds_toArray, List.set_cons_zero, List.set_cons_succ, i64_w, i32_w]
             rfl
            refine one_ (i := 19) (N := some 107) #[true, true, true, true, true, true, true, true, true, true, true, true, true, true, true, true, true, true, true, true, false, false, false, false, false, false, false, false, false, false, false, false, false, false, false, false, false, false, false, false, false, false, false, false, false, false, false, false, false, false, false, false, false, false] rfl rfl (one_of HT_.out (by kernel_rfl)) (by decide) (fun K hK => ?_)
            refine goes_ Try.func31 (by kernel_rfl) rfl #[.agg #[.int .i64 t513, .string t514]] (by rfl) rfl rfl (by (try simp only [List.map_toArray, List.map_cons, List.map_nil]); first | done | rfl | (simp only [List.length_drop, List.length_take]; rfl)) ?_
            with_reducible refine (spec_TableKey.calls kj7 t513 t514 t556 _ A52.out).mono ?_
            rintro e w128 ⟨rfl, hb⟩
            refine ⟨_, rfl, ?_⟩
            have n0_ := bb BK517 hb
            have n1_ := bb BK518 hb
            have n2_ := bb BK522 hb
            have n3_ := bb BK526 hb
            have n4_ := bb BK530 hb
            have n5_ := bb BK534 hb
            have n6_ := bb BK540 hb
            have n7_ := bb BK546 hb
            have n8_ := bb BK550 hb
            have n9_ := bs HB hb
            clear BK517
            clear BK518
            clear BK522
            clear BK526
            clear BK530
            clear BK534
            clear BK540
            clear BK546
            clear BK550
            clear HB
            have BK517 := n0_
            have BK518 := n1_
            have BK522 := n2_
            have BK526 := n3_
            have BK530 := n4_
            have BK534 := n5_
            have BK540 := n6_
            have BK546 := n7_
            have BK550 := n8_
            have HB := n9_
            clear n0_ n1_ n2_ n3_ n4_ n5_ n6_ n7_ n8_ n9_
            (try clear hb)
            (try clear hb2)
            (try clear hk)
            (try clear hi)
            refine hK.out _ _ ⟨(blk_cell BK534.out 0).trans rfl, (blk_cell BK534.out 1).trans rfl, (blk_cell BK517.out 0).trans rfl, (blk_cell BK517.out 1).trans rfl, (blk_cell BK550.out 0).trans rfl, (blk_cell BK550.out 1).trans rfl, (blk_cell BK526.out 0).trans rfl, (blk_cell BK526.out 1).trans rfl, (blk_cell BK518.out 0).trans rfl, (blk_cell BK518.out 1).trans rfl, (blk_cell BK522.out 0).trans rfl, (blk_cell BK522.out 1).trans rfl, (blk_cell BK540.out 0).trans rfl, (blk_cell BK540.out 1).trans rfl, (blk_cell BK546.out 0).trans rfl, (blk_cell BK546.out 1).trans rfl⟩ (fun hHeld => ?_)
            clear hK K
            refine norm_ (a' := ?_) ?_ ?_
            rotate_left
            ·show Act.put _ (some 107) _ = _
             simp only [Act.put, List.setIfInBounds_toArray, List.set_cons_zero, List.set_cons_succ, i64_w, i32_w]
             rfl
            refine pure_ (i := 20) (N := some 108) (v := ?_) (a' := ?_) #[true, true, true, true, true, true, true, true, true, true, true, true, true, true, true, true, true, true, true, true, true, false, false, false, false, false, false, false, false, false, false, false, false, false, false, false, false, false, false, false, false, false, false, false, false, false, false, false, false, false, false, false, false, false] rfl rfl (any_of HT_.out (by kernel_rfl)) (fun _ _ _ h => h) (Or.inl ⟨by rfl, ?_⟩) ?_ ?_
            rotate_left
            ·intro w'
             go_simp
             with_reducible rfl
            rotate_left
            ·simp only [Act.put, List.setIfInBounds_toArray, List.set_cons_zero, List.set_cons_succ, i64_w, i32_w]
             rfl
            refine pure_ (i := 21) (N := some 109) (v := ?_) (a' := ?_) #[true, true, true, true, true, true, true, true, true, true, true, true, true, true, true, true, true, true, true, true, true, true, false, false, false, false, false, false, false, false, false, false, false, false, false, false, false, false, false, false, false, false, false, false, false, false, false, false, false, false, false, false, false, false] rfl rfl (any_of HT_.out (by kernel_rfl)) (fun _ _ _ h => h) (Or.inl ⟨by rfl, ?_⟩) ?_ ?_
            rotate_left
            ·intro w'
             go_simp
             with_reducible rfl
            rotate_left
            ·simp only [Act.put, List.setIfInBounds_toArray, List.set_cons_zero, List.set_cons_succ, i64_w, i32_w]
             rfl
            refine pure_ (i := 22) (N := some 110) (v := ?_) (a' := ?_) #[true, true, true, true, true, true, true, true, true, true, true, true, true, true, true, true, true, true, true, true, true, true, true, false, false, false, false, false, false, false, false, false, false, false, false, false, false, false, false, false, false, false, false, false, false, false, false, false, false, false, false, false, false, false] rfl rfl (any_of HT_.out (by kernel_rfl)) (fun _ _ _ h => h) (Or.inl ⟨by rfl, ?_⟩) ?_ ?_
            rotate_left
            ·intro w'
             go_simp
             with_reducible rfl
            rotate_left
            ·simp only [Act.put, List.setIfInBounds_toArray, List.set_cons_zero, List.set_cons_succ, i64_w, i32_w]
             rfl
            refine take_ (i := 23) (N := some 111) (v := ?_) (a' := ?_) #[true, true, true, true, true, true, true, true, true, true, true, true, true, true, true, true, true, true, true, true, true, true, true, true, false, false, false, false, false, false, false, false, false, false, false, false, false, false, false, false, false, false, false, false, false, false, false, false, false, false, false, false, false, false] rfl rfl (take_ofW HT_.out HW_.out (by kernel_rfl)) (fun _ _ _ h => h) (Or.inl ⟨by rfl, ?_⟩) hHeld ?_ ?_
            rotate_left
            ·rintro w' ⟨s0, s1, s2, s3, s4, s5, s6, s7, s8, s9, s10, s11, s12, s13, s14, s15⟩
             go_simp
             with_reducible rfl
            rotate_left
            ·simp only [Act.put, List.setIfInBounds_toArray, List.set_cons_zero, List.set_cons_succ, i64_w, i32_w]
             rfl
            refine take_ (i := 25) (N := some 113) (v := ?_) (a' := ?_) #[true, true, true, true, true, true, true, true, true, true, true, true, true, true, true, true, true, true, true, true, true, true, true, true, false, true, false, false, false, false, false, false, false, false, false, false, false, false, false, false, false, false, false, false, false, false, false, false, false, false, false, false, false, false] rfl rfl (take_ofW HT_.out HW_.out (by kernel_rfl)) (fun _ _ _ h => h) (Or.inl ⟨by rfl, ?_⟩) hHeld ?_ ?_
            rotate_left
            ·rintro w' ⟨s0, s1, s2, s3, s4, s5, s6, s7, s8, s9, s10, s11, s12, s13, s14, s15⟩
             go_simp
             with_reducible rfl
            rotate_left
            ·simp only [Act.put, List.setIfInBounds_toArray, List.set_cons_zero, List.set_cons_succ, i64_w, i32_w]
             rfl
            refine take_ (i := 28) (N := some 116) (v := ?_) (a' := ?_) #[true, true, true, true, true, true, true, true, true, true, true, true, true, true, true, true, true, true, true, true, true, true, true, true, false, true, false, false, true, false, false, false, false, false, false, false, false, false, false, false, false, false, false, false, false, false, false, false, false, false, false, false, false, false] rfl rfl (take_ofW HT_.out HW_.out (by kernel_rfl)) (fun _ _ _ h => h) (Or.inl ⟨by rfl, ?_⟩) hHeld ?_ ?_
            rotate_left
            ·rintro w' ⟨s0, s1, s2, s3, s4, s5, s6, s7, s8, s9, s10, s11, s12, s13, s14, s15⟩
             go_simp
             with_reducible rfl
            rotate_left
            ·simp only [Act.put, List.setIfInBounds_toArray, List.set_cons_zero, List.set_cons_succ, i64_w, i32_w]
             rfl
            refine take_ (i := 29) (N := some 117) (v := ?_) (a' := ?_) #[true, true, true, true, true, true, true, true, true, true, true, true, true, true, true, true, true, true, true, true, true, true, true, true, false, true, false, false, true, true, false, false, false, false, false, false, false, false, false, false, false, false, false, false, false, false, false, false, false, false, false, false, false, false] rfl rfl (take_ofW HT_.out HW_.out (by kernel_rfl)) (fun _ _ _ h => h) (Or.inl ⟨by rfl, ?_⟩) hHeld ?_ ?_
            rotate_left
            ·rintro w' ⟨s0, s1, s2, s3, s4, s5, s6, s7, s8, s9, s10, s11, s12, s13, s14, s15⟩
             go_simp
             with_reducible rfl
            rotate_left
            ·simp only [Act.put, List.setIfInBounds_toArray, List.set_cons_zero, List.set_cons_succ, i64_w, i32_w]
             rfl
            refine pure_ (i := 30) (N := some 118) (v := ?_) (a' := ?_) #[true, true, true, true, true, true, true, true, true, true, true, true, true, true, true, true, true, true, true, true, true, true, true, true, false, true, false, false, true, true, true, false, false, false, false, false, false, false, false, false, false, false, false, false, false, false, false, false, false, false, false, false, false, false] rfl rfl (any_of HT_.out (by kernel_rfl)) (fun _ _ _ h => h) (Or.inl ⟨by rfl, ?_⟩) ?_ ?_
            rotate_left
            ·intro w'
             go_simp
             with_reducible rfl
            rotate_left
            ·simp only [Act.put, List.setIfInBounds_toArray, List.set_cons_zero, List.set_cons_succ, i64_w, i32_w]
             rfl
            refine one_ (i := 24) (N := some 112) #[true, true, true, true, true, true, true, true, true, true, true, true, true, true, true, true, true, true, true, true, true, true, true, true, true, true, false, false, true, true, true, false, false, false, false, false, false, false, false, false, false, false, false, false, false, false, false, false, false, false, false, false, false, false] rfl rfl (one_of HT_.out (by kernel_rfl)) (by decide) (fun K hK => ?_)
            refine goes_ Try.func25 (by kernel_rfl) rfl #[.agg #[.int .i64 t513, .string t514]] (by rfl) rfl rfl (by (try simp only [List.map_toArray, List.map_cons, List.map_nil]); first | done | rfl | (simp only [List.length_drop, List.length_take]; rfl)) ?_
            with_reducible refine (impl_TableKey.calls kj7 t513 t514 t557 _ A54.out).mono ?_
            rintro e w129 ⟨rfl, hb⟩
            refine ⟨_, rfl, ?_⟩
            have n0_ := bb BK517 hb
            have n1_ := bb BK518 hb
            have n2_ := bb BK522 hb
            have n3_ := bb BK526 hb
            have n4_ := bb BK530 hb
            have n5_ := bb BK534 hb
            have n6_ := bb BK540 hb
            have n7_ := bb BK546 hb
            have n8_ := bb BK550 hb
            have n9_ := bs HB hb
            clear BK517
            clear BK518
            clear BK522
            clear BK526
            clear BK530
            clear BK534
            clear BK540
            clear BK546
            clear BK550
            clear HB
            have BK517 := n0_
            have BK518 := n1_
            have BK522 := n2_
            have BK526 := n3_
            have BK530 := n4_
            have BK534 := n5_
            have BK540 := n6_
            have BK546 := n7_
            have BK550 := n8_
            have HB := n9_
            clear n0_ n1_ n2_ n3_ n4_ n5_ n6_ n7_ n8_ n9_
            (try clear hb)
            (try clear hb2)
            (try clear hk)
            (try clear hi)
            refine hK.out _ _ ⟨(blk_cell BK534.out 0).trans rfl, (blk_cell BK534.out 1).trans rfl, (blk_cell BK517.out 0).trans rfl, (blk_cell BK517.out 1).trans rfl, (blk_cell BK550.out 0).trans rfl, (blk_cell BK550.out 1).trans rfl, (blk_cell BK526.out 0).trans rfl, (blk_cell BK526.out 1).trans rfl, (blk_cell BK518.out 0).trans rfl, (blk_cell BK518.out 1).trans rfl, (blk_cell BK522.out 0).trans rfl, (blk_cell BK522.out 1).trans rfl, (blk_cell BK540.out 0).trans rfl, (blk_cell BK540.out 1).trans rfl, (blk_cell BK546.out 0).trans rfl, (blk_cell BK546.out 1).trans rfl⟩ (fun hHeld => ?_)
            clear hK K
            refine norm_ (a' := ?_) ?_ ?_
            rotate_left
            ·show Act.put _ (some 112) _ = _
             simp only [Act.put, List.setIfInBounds_toArray, List.set_cons_zero, List.set_cons_succ, i64_w, i32_w]
             rfl
            refine one_ (i := 26) (N := some 114) #[true, true, true, true, true, true, true, true, true, true, true, true, true, true, true, true, true, true, true, true, true, true, true, true, true, true, true, false, true, true, true, false, false, false, false, false, false, false, false, false, false, false, false, false, false, false, false, false, false, false, false, false, false, false] rfl rfl (one_of HT_.out (by kernel_rfl)) (by decide) (fun K hK => ?_)
            refine goes_ Try.func25 (by kernel_rfl) rfl #[.agg #[.int .i64 t515, .string t516]] (by rfl) rfl rfl (by (try simp only [List.map_toArray, List.map_cons, List.map_nil]); first | done | rfl | (simp only [List.length_drop, List.length_take]; rfl)) ?_
            with_reducible refine (impl_TableKey.calls kj7 t515 t516 t558 _ A55.out).mono ?_
            rintro e w130 ⟨rfl, hb⟩
            refine ⟨_, rfl, ?_⟩
            have n0_ := bb BK517 hb
            have n1_ := bb BK518 hb
            have n2_ := bb BK522 hb
            have n3_ := bb BK526 hb
            have n4_ := bb BK530 hb
            have n5_ := bb BK534 hb
            have n6_ := bb BK540 hb
            have n7_ := bb BK546 hb
            have n8_ := bb BK550 hb
            have n9_ := bs HB hb
            clear BK517
            clear BK518
            clear BK522
            clear BK526
            clear BK530
            clear BK534
            clear BK540
            clear BK546
            clear BK550
            clear HB
            have BK517 := n0_
            have BK518 := n1_
            have BK522 := n2_
            have BK526 := n3_
            have BK530 := n4_
            have BK534 := n5_
            have BK540 := n6_
            have BK546 := n7_
            have BK550 := n8_
            have HB := n9_
            clear n0_ n1_ n2_ n3_ n4_ n5_ n6_ n7_ n8_ n9_
            (try clear hb)
            (try clear hb2)
            (try clear hk)
            (try clear hi)
            refine hK.out _ _ ⟨(blk_cell BK534.out 0).trans rfl, (blk_cell BK534.out 1).trans rfl, (blk_cell BK517.out 0).trans rfl, (blk_cell BK517.out 1).trans rfl, (blk_cell BK550.out 0).trans rfl, (blk_cell BK550.out 1).trans rfl, (blk_cell BK526.out 0).trans rfl, (blk_cell BK526.out 1).trans rfl, (blk_cell BK518.out 0).trans rfl, (blk_cell BK518.out 1).trans rfl, (blk_cell BK522.out 0).trans rfl, (blk_cell BK522.out 1).trans rfl, (blk_cell BK540.out 0).trans rfl, (blk_cell BK540.out 1).trans rfl, (blk_cell BK546.out 0).trans rfl, (blk_cell BK546.out 1).trans rfl⟩ (fun hHeld => ?_)
            clear hK K
            refine norm_ (a' := ?_) ?_ ?_
            rotate_left
            ·show Act.put _ (some 114) _ = _
             simp only [Act.put, List.setIfInBounds_toArray, List.set_cons_zero, List.set_cons_succ, i64_w, i32_w]
             rfl
            refine pure_ (i := 27) (N := some 115) (v := ?_) (a' := ?_) #[true, true, true, true, true, true, true, true, true, true, true, true, true, true, true, true, true, true, true, true, true, true, true, true, true, true, true, true, true, true, true, false, false, false, false, false, false, false, false, false, false, false, false, false, false, false, false, false, false, false, false, false, false, false] rfl rfl (any_of HT_.out (by kernel_rfl)) (fun _ _ _ h => h) (Or.inl ⟨by rfl, ?_⟩) ?_ ?_
            rotate_left
            ·intro w'
             go_simp
             with_reducible rfl
            rotate_left
            ·simp only [Act.put, List.setIfInBounds_toArray, List.set_cons_zero, List.set_cons_succ, i64_w, i32_w]
             rfl
            refine pure_ (i := 31) (N := some 119) (v := ?_) (a' := ?_) #[true, true, true, true, true, true, true, true, true, true, true, true, true, true, true, true, true, true, true, true, true, true, true, true, true, true, true, true, true, true, true, true, false, false, false, false, false, false, false, false, false, false, false, false, false, false, false, false, false, false, false, false, false, false] rfl rfl (any_of HT_.out (by kernel_rfl)) (fun _ _ _ h => h) (Or.inl ⟨by rfl, ?_⟩) ?_ ?_
            rotate_left
            ·intro w'
             go_simp
             with_reducible rfl
            rotate_left
            ·simp only [Act.put, List.setIfInBounds_toArray, List.set_cons_zero, List.set_cons_succ, i64_w, i32_w]
             rfl
            refine pure_ (i := 32) (N := some 120) (v := ?_) (a' := ?_) #[true, true, true, true, true, true, true, true, true, true, true, true, true, true, true, true, true, true, true, true, true, true, true, true, true, true, true, true, true, true, true, true, true, false, false, false, false, false, false, false, false, false, false, false, false, false, false, false, false, false, false, false, false, false] rfl rfl (any_of HT_.out (by kernel_rfl)) (fun _ _ _ h => h) (Or.inl ⟨by rfl, ?_⟩) ?_ ?_
            rotate_left
            ·intro w'
             go_simp
             with_reducible rfl
            rotate_left
            ·simp only [Act.put, List.setIfInBounds_toArray, List.set_cons_zero, List.set_cons_succ, i64_w, i32_w]
             rfl
            refine pure_ (i := 33) (N := some 121) (v := ?_) (a' := ?_) #[true, true, true, true, true, true, true, true, true, true, true, true, true, true, true, true, true, true, true, true, true, true, true, true, true, true, true, true, true, true, true, true, true, true, false, false, false, false, false, false, false, false, false, false, false, false, false, false, false, false, false, false, false, false] rfl rfl (any_of HT_.out (by kernel_rfl)) (fun _ _ _ h => h) (Or.inl ⟨by rfl, ?_⟩) ?_ ?_
            rotate_left
            ·intro w'
             go_simp
             with_reducible rfl
            rotate_left
            ·simp only [Act.put, List.setIfInBounds_toArray, List.set_cons_zero, List.set_cons_succ, i64_w, i32_w]
             rfl
            refine take_ (i := 34) (N := some 122) (v := ?_) (a' := ?_) #[true, true, true, true, true, true, true, true, true, true, true, true, true, true, true, true, true, true, true, true, true, true, true, true, true, true, true, true, true, true, true, true, true, true, true, false, false, false, false, false, false, false, false, false, false, false, false, false, false, false, false, false, false, false] rfl rfl (take_ofW HT_.out HW_.out (by kernel_rfl)) (fun _ _ _ h => h) (Or.inl ⟨by rfl, ?_⟩) hHeld ?_ ?_
            rotate_left
            ·rintro w' ⟨s0, s1, s2, s3, s4, s5, s6, s7, s8, s9, s10, s11, s12, s13, s14, s15⟩
             go_simp
             with_reducible rfl
            rotate_left
            ·simp only [Act.put, List.setIfInBounds_toArray, List.set_cons_zero, List.set_cons_succ, i64_w, i32_w]
             rfl
            refine take_ (i := 36) (N := some 124) (v := ?_) (a' := ?_) #[true, true, true, true, true, true, true, true, true, true, true, true, true, true, true, true, true, true, true, true, true, true, true, true, true, true, true, true, true, true, true, true, true, true, true, false, true, false, false, false, false, false, false, false, false, false, false, false, false, false, false, false, false, false] rfl rfl (take_ofW HT_.out HW_.out (by kernel_rfl)) (fun _ _ _ h => h) (Or.inl ⟨by rfl, ?_⟩) hHeld ?_ ?_
            rotate_left
            ·rintro w' ⟨s0, s1, s2, s3, s4, s5, s6, s7, s8, s9, s10, s11, s12, s13, s14, s15⟩
             go_simp
             with_reducible rfl
            rotate_left
            ·simp only [Act.put, List.setIfInBounds_toArray, List.set_cons_zero, List.set_cons_succ, i64_w, i32_w]
             rfl
            refine take_ (i := 39) (N := some 127) (v := ?_) (a' := ?_) #[true, true, true, true, true, true, true, true, true, true, true, true, true, true, true, true, true, true, true, true, true, true, true, true, true, true, true, true, true, true, true, true, true, true, true, false, true, false, false, true, false, false, false, false, false, false, false, false, false, false, false, false, false, false] rfl rfl (take_ofW HT_.out HW_.out (by kernel_rfl)) (fun _ _ _ h => h) (Or.inl ⟨by rfl, ?_⟩) hHeld ?_ ?_
            rotate_left
            ·rintro w' ⟨s0, s1, s2, s3, s4, s5, s6, s7, s8, s9, s10, s11, s12, s13, s14, s15⟩
             go_simp
             with_reducible rfl
            rotate_left
            ·simp only [Act.put, List.setIfInBounds_toArray, List.set_cons_zero, List.set_cons_succ, i64_w, i32_w]
             rfl
            refine one_ (i := 35) (N := some 123) #[true, true, true, true, true, true, true, true, true, true, true, true, true, true, true, true, true, true, true, true, true, true, true, true, true, true, true, true, true, true, true, true, true, true, true, true, true, false, false, true, false, false, false, false, false, false, false, false, false, false, false, false, false, false] rfl rfl (one_of HT_.out (by kernel_rfl)) (by decide) (fun K hK => ?_)
            refine goes_ Try.func24 (by kernel_rfl) rfl #[.agg #[.int .i64 t519, .string t520]] (by rfl) rfl rfl (by (try simp only [List.map_toArray, List.map_cons, List.map_nil]); first | done | rfl | (simp only [List.length_drop, List.length_take]; rfl)) ?_
            with_reducible refine (impl_TableCount.calls kj7 t519 t520 t559 _ A57.out).mono ?_
            rintro e w131 ⟨rfl, hb⟩
            refine ⟨_, rfl, ?_⟩
            have n0_ := bb BK517 hb
            have n1_ := bb BK518 hb
            have n2_ := bb BK522 hb
            have n3_ := bb BK526 hb
            have n4_ := bb BK530 hb
            have n5_ := bb BK534 hb
            have n6_ := bb BK540 hb
            have n7_ := bb BK546 hb
            have n8_ := bb BK550 hb
            have n9_ := bs HB hb
            clear BK517
            clear BK518
            clear BK522
            clear BK526
            clear BK530
            clear BK534
            clear BK540
            clear BK546
            clear BK550
            clear HB
            have BK517 := n0_
            have BK518 := n1_
            have BK522 := n2_
            have BK526 := n3_
            have BK530 := n4_
            have BK534 := n5_
            have BK540 := n6_
            have BK546 := n7_
            have BK550 := n8_
            have HB := n9_
            clear n0_ n1_ n2_ n3_ n4_ n5_ n6_ n7_ n8_ n9_
            (try clear hb)
            (try clear hb2)
            (try clear hk)
            (try clear hi)
            refine hK.out _ _ ⟨(blk_cell BK534.out 0).trans rfl, (blk_cell BK534.out 1).trans rfl, (blk_cell BK517.out 0).trans rfl, (blk_cell BK517.out 1).trans rfl, (blk_cell BK550.out 0).trans rfl, (blk_cell BK550.out 1).trans rfl, (blk_cell BK526.out 0).trans rfl, (blk_cell BK526.out 1).trans rfl, (blk_cell BK518.out 0).trans rfl, (blk_cell BK518.out 1).trans rfl, (blk_cell BK522.out 0).trans rfl, (blk_cell BK522.out 1).trans rfl, (blk_cell BK540.out 0).trans rfl, (blk_cell BK540.out 1).trans rfl, (blk_cell BK546.out 0).trans rfl, (blk_cell BK546.out 1).trans rfl⟩ (fun hHeld => ?_)
            clear hK K
            refine norm_ (a' := ?_) ?_ ?_
            rotate_left
            ·show Act.put _ (some 123) _ = _
             simp only [Act.put, List.setIfInBounds_toArray, List.set_cons_zero, List.set_cons_succ, i64_w, i32_w]
             rfl
            refine one_ (i := 37) (N := some 125) #[true, true, true, true, true, true, true, true, true, true, true, true, true, true, true, true, true, true, true, true, true, true, true, true, true, true, true, true, true, true, true, true, true, true, true, true, true, true, false, true, false, false, false, false, false, false, false, false, false, false, false, false, false, false] rfl rfl (one_of HT_.out (by kernel_rfl)) (by decide) (fun K hK => ?_)
            refine goes_ Try.func24 (by kernel_rfl) rfl #[.agg #[.int .i64 t537, .string t538]] (by rfl) rfl rfl (by (try simp only [List.map_toArray, List.map_cons, List.map_nil]); first | done | rfl | (simp only [List.length_drop, List.length_take]; rfl)) ?_
            with_reducible refine (impl_TableCount.calls kj7 t537 t538 t560 _ A58.out).mono ?_
            rintro e w132 ⟨rfl, hb⟩
            refine ⟨_, rfl, ?_⟩
            have n0_ := bb BK517 hb
            have n1_ := bb BK518 hb
            have n2_ := bb BK522 hb
            have n3_ := bb BK526 hb
            have n4_ := bb BK530 hb
            have n5_ := bb BK534 hb
            have n6_ := bb BK540 hb
            have n7_ := bb BK546 hb
            have n8_ := bb BK550 hb
            have n9_ := bs HB hb
            clear BK517
            clear BK518
            clear BK522
            clear BK526
            clear BK530
            clear BK534
            clear BK540
            clear BK546
            clear BK550
            clear HB
            have BK517 := n0_
            have BK518 := n1_
            have BK522 := n2_
            have BK526 := n3_
            have BK530 := n4_
            have BK534 := n5_
            have BK540 := n6_
            have BK546 := n7_
            have BK550 := n8_
            have HB := n9_
            clear n0_ n1_ n2_ n3_ n4_ n5_ n6_ n7_ n8_ n9_
            (try clear hb)
            (try clear hb2)
            (try clear hk)
            (try clear hi)
            refine hK.out _ _ ⟨(blk_cell BK534.out 0).trans rfl, (blk_cell BK534.out 1).trans rfl, (blk_cell BK517.out 0).trans rfl, (blk_cell BK517.out 1).trans rfl, (blk_cell BK550.out 0).trans rfl, (blk_cell BK550.out 1).trans rfl, (blk_cell BK526.out 0).trans rfl, (blk_cell BK526.out 1).trans rfl, (blk_cell BK518.out 0).trans rfl, (blk_cell BK518.out 1).trans rfl, (blk_cell BK522.out 0).trans rfl, (blk_cell BK522.out 1).trans rfl, (blk_cell BK540.out 0).trans rfl, (blk_cell BK540.out 1).trans rfl, (blk_cell BK546.out 0).trans rfl, (blk_cell BK546.out 1).trans rfl⟩ (fun hHeld => ?_)
            clear hK K
            refine norm_ (a' := ?_) ?_ ?_
            rotate_left
            ·show Act.put _ (some 125) _ = _
             simp only [Act.put, List.setIfInBounds_toArray, List.set_cons_zero, List.set_cons_succ, i64_w, i32_w]
             rfl
            refine pure_ (i := 38) (N := some 126) (v := ?_) (a' := ?_) #[true, true, true, true, true, true, true, true, true, true, true, true, true, true, true, true, true, true, true, true, true, true, true, true, true, true, true, true, true, true, true, true, true, true, true, true, true, true, true, true, false, false, false, false, false, false, false, false, false, false, false, false, false, false] rfl rfl (any_of HT_.out (by kernel_rfl)) (fun _ _ _ h => h) (Or.inl ⟨by rfl, ?_⟩) ?_ ?_
            rotate_left
            ·intro w'
             go_simp
             with_reducible rfl
            rotate_left
            ·simp only [Act.put, List.setIfInBounds_toArray, List.set_cons_zero, List.set_cons_succ, i64_w, i32_w]
             rfl
            refine one_ (i := 40) (N := some 128) #[true, true, true, true, true, true, true, true, true, true, true, true, true, true, true, true, true, true, true, true, true, true, true, true, true, true, true, true, true, true, true, true, true, true, true, true, true, true, true, true, true, false, false, false, false, false, false, false, false, false, false, false, false, false] rfl rfl (one_of HT_.out (by kernel_rfl)) (by decide) (fun K hK => ?_)
            refine goes_ Try.func24 (by kernel_rfl) rfl #[.agg #[.int .i64 t513, .string t514]] (by rfl) rfl rfl (by (try simp only [List.map_toArray, List.map_cons, List.map_nil]); first | done | rfl | (simp only [List.length_drop, List.length_take]; rfl)) ?_
            with_reducible refine (impl_TableCount.calls kj7 t513 t514 t561 _ A59.out).mono ?_
            rintro e w133 ⟨rfl, hb⟩
            refine ⟨_, rfl, ?_⟩
            have n0_ := bb BK517 hb
            have n1_ := bb BK518 hb
            have n2_ := bb BK522 hb
            have n3_ := bb BK526 hb
            have n4_ := bb BK530 hb
            have n5_ := bb BK534 hb
            have n6_ := bb BK540 hb
            have n7_ := bb BK546 hb
            have n8_ := bb BK550 hb
            have n9_ := bs HB hb
            clear BK517
            clear BK518
            clear BK522
            clear BK526
            clear BK530
            clear BK534
            clear BK540
            clear BK546
            clear BK550
            clear HB
            have BK517 := n0_
            have BK518 := n1_
            have BK522 := n2_
            have BK526 := n3_
            have BK530 := n4_
            have BK534 := n5_
            have BK540 := n6_
            have BK546 := n7_
            have BK550 := n8_
            have HB := n9_
            clear n0_ n1_ n2_ n3_ n4_ n5_ n6_ n7_ n8_ n9_
            (try clear hb)
            (try clear hb2)
            (try clear hk)
            (try clear hi)
            refine hK.out _ _ ⟨(blk_cell BK534.out 0).trans rfl, (blk_cell BK534.out 1).trans rfl, (blk_cell BK517.out 0).trans rfl, (blk_cell BK517.out 1).trans rfl, (blk_cell BK550.out 0).trans rfl, (blk_cell BK550.out 1).trans rfl, (blk_cell BK526.out 0).trans rfl, (blk_cell BK526.out 1).trans rfl, (blk_cell BK518.out 0).trans rfl, (blk_cell BK518.out 1).trans rfl, (blk_cell BK522.out 0).trans rfl, (blk_cell BK522.out 1).trans rfl, (blk_cell BK540.out 0).trans rfl, (blk_cell BK540.out 1).trans rfl, (blk_cell BK546.out 0).trans rfl, (blk_cell BK546.out 1).trans rfl⟩ (fun hHeld => ?_)
            clear hK K
            refine norm_ (a' := ?_) ?_ ?_
            rotate_left
            ·show Act.put _ (some 128) _ = _
             simp only [Act.put, List.setIfInBounds_toArray, List.set_cons_zero, List.set_cons_succ, i64_w, i32_w]
             rfl
            refine pure_ (i := 41) (N := some 129) (v := ?_) (a' := ?_) #[true, true, true, true, true, true, true, true, true, true, true, true, true, true, true, true, true, true, true, true, true, true, true, true, true, true, true, true, true, true, true, true, true, true, true, true, true, true, true, true, true, true, false, false, false, false, false, false, false, false, false, false, false, false] rfl rfl (any_of HT_.out (by kernel_rfl)) (fun _ _ _ h => h) (Or.inl ⟨by rfl, ?_⟩) ?_ ?_
            rotate_left
            ·intro w'
             go_simp
             with_reducible rfl
            rotate_left
            ·simp only [Act.put, List.setIfInBounds_toArray, List.set_cons_zero, List.set_cons_succ, i64_w, i32_w]
             rfl
            refine pure_ (i := 42) (N := some 130) (v := ?_) (a' := ?_) #[true, true, true, true, true, true, true, true, true, true, true, true, true, true, true, true, true, true, true, true, true, true, true, true, true, true, true, true, true, true, true, true, true, true, true, true, true, true, true, true, true, true, true, false, false, false, false, false, false, false, false, false, false, false] rfl rfl (any_of HT_.out (by kernel_rfl)) (fun _ _ _ h => h) (Or.inl ⟨by rfl, ?_⟩) ?_ ?_
            rotate_left
            ·intro w'
             go_simp
             with_reducible rfl
            rotate_left
            ·simp only [Act.put, List.setIfInBounds_toArray, List.set_cons_zero, List.set_cons_succ, i64_w, i32_w]
             rfl
            refine pure_ (i := 43) (N := some 131) (v := ?_) (a' := ?_) #[true, true, true, true, true, true, true, true, true, true, true, true, true, true, true, true, true, true, true, true, true, true, true, true, true, true, true, true, true, true, true, true, true, true, true, true, true, true, true, true, true, true, true, true, false, false, false, false, false, false, false, false, false, false] rfl rfl (any_of HT_.out (by kernel_rfl)) (fun _ _ _ h => h) (Or.inl ⟨by rfl, ?_⟩) ?_ ?_
            rotate_left
            ·intro w'
             go_simp
             with_reducible rfl
            rotate_left
            ·simp only [Act.put, List.setIfInBounds_toArray, List.set_cons_zero, List.set_cons_succ, i64_w, i32_w]
             rfl
            refine take_ (i := 44) (N := some 132) (v := ?_) (a' := ?_) #[true, true, true, true, true, true, true, true, true, true, true, true, true, true, true, true, true, true, true, true, true, true, true, true, true, true, true, true, true, true, true, true, true, true, true, true, true, true, true, true, true, true, true, true, true, false, false, false, false, false, false, false, false, false] rfl rfl (take_ofW HT_.out HW_.out (by kernel_rfl)) (fun _ _ _ h => h) (Or.inl ⟨by rfl, ?_⟩) hHeld ?_ ?_
            rotate_left
            ·rintro w' ⟨s0, s1, s2, s3, s4, s5, s6, s7, s8, s9, s10, s11, s12, s13, s14, s15⟩
             go_simp
             with_reducible rfl
            rotate_left
            ·simp only [Act.put, List.setIfInBounds_toArray, List.set_cons_zero, List.set_cons_succ, i64_w, i32_w]
             rfl
            refine take_ (i := 46) (N := some 134) (v := ?_) (a' := ?_) #[true, true, true, true, true, true, true, true, true, true, true, true, true, true, true, true, true, true, true, true, true, true, true, true, true, true, true, true, true, true, true, true, true, true, true, true, true, true, true, true, true, true, true, true, true, false, true, false, false, false, false, false, false, false] rfl rfl (take_ofW HT_.out HW_.out (by kernel_rfl)) (fun _ _ _ h => h) (Or.inl ⟨by rfl, ?_⟩) hHeld ?_ ?_
            rotate_left
            ·rintro w' ⟨s0, s1, s2, s3, s4, s5, s6, s7, s8, s9, s10, s11, s12, s13, s14, s15⟩
             go_simp
             with_reducible rfl
            rotate_left
            ·simp only [Act.put, List.setIfInBounds_toArray, List.set_cons_zero, List.set_cons_succ, i64_w, i32_w]
             rfl
            refine take_ (i := 48) (N := some 136) (v := ?_) (a' := ?_) #[true, true, true, true, true, true, true, true, true, true, true, true, true, true, true, true, true, true, true, true, true, true, true, true, true, true, true, true, true, true, true, true, true, true, true, true, true, true, true, true, true, true, true, true, true, false, true, false, true, false, false, false, false, false] rfl rfl (take_ofW HT_.out HW_.out (by kernel_rfl)) (fun _ _ _ h => h) (Or.inl ⟨by rfl, ?_⟩) hHeld ?_ ?_
            rotate_left
            ·rintro w' ⟨s0, s1, s2, s3, s4, s5, s6, s7, s8, s9, s10, s11, s12, s13, s14, s15⟩
             go_simp
             with_reducible rfl
            rotate_left
            ·simp only [Act.put, List.setIfInBounds_toArray, List.set_cons_zero, List.set_cons_succ, i64_w, i32_w]
             rfl
            refine one_ (i := 45) (N := some 133) #[true, true, true, true, true, true, true, true, true, true, true, true, true, true, true, true, true, true, true, true, true, true, true, true, true, true, true, true, true, true, true, true, true, true, true, true, true, true, true, true, true, true, true, true, true, true, true, false, true, false, false, false, false, false] rfl rfl (one_of HT_.out (by kernel_rfl)) (by decide) (fun K hK => ?_)
            refine goes_ Try.func24 (by kernel_rfl) rfl #[.agg #[.int .i64 t523, .string t524]] (by rfl) rfl rfl (by (try simp only [List.map_toArray, List.map_cons, List.map_nil]); first | done | rfl | (simp only [List.length_drop, List.length_take]; rfl)) ?_
            with_reducible refine (impl_TableCount.calls kj7 t523 t524 t562 _ A61.out).mono ?_
            rintro e w134 ⟨rfl, hb⟩
            refine ⟨_, rfl, ?_⟩
            have n0_ := bb BK517 hb
            have n1_ := bb BK518 hb
            have n2_ := bb BK522 hb
            have n3_ := bb BK526 hb
            have n4_ := bb BK530 hb
            have n5_ := bb BK534 hb
            have n6_ := bb BK540 hb
            have n7_ := bb BK546 hb
            have n8_ := bb BK550 hb
            have n9_ := bs HB hb
            clear BK517
            clear BK518
            clear BK522
            clear BK526
            clear BK530
            clear BK534
            clear BK540
            clear BK546
            clear BK550
            clear HB
            have BK517 := n0_
            have BK518 := n1_
            have BK522 := n2_
            have BK526 := n3_
            have BK530 := n4_
            have BK534 := n5_
            have BK540 := n6_
            have BK546 := n7_
            have BK550 := n8_
            have HB := n9_
            clear n0_ n1_ n2_ n3_ n4_ n5_ n6_ n7_ n8_ n9_
            (try clear hb)
            (try clear hb2)
            (try clear hk)
            (try clear hi)
            refine hK.out _ _ ⟨(blk_cell BK534.out 0).trans rfl, (blk_cell BK534.out 1).trans rfl, (blk_cell BK517.out 0).trans rfl, (blk_cell BK517.out 1).trans rfl, (blk_cell BK550.out 0).trans rfl, (blk_cell BK550.out 1).trans rfl, (blk_cell BK526.out 0).trans rfl, (blk_cell BK526.out 1).trans rfl, (blk_cell BK518.out 0).trans rfl, (blk_cell BK518.out 1).trans rfl, (blk_cell BK522.out 0).trans rfl, (blk_cell BK522.out 1).trans rfl, (blk_cell BK540.out 0).trans rfl, (blk_cell BK540.out 1).trans rfl, (blk_cell BK546.out 0).trans rfl, (blk_cell BK546.out 1).trans rfl⟩ (fun hHeld => ?_)
            clear hK K
            refine norm_ (a' := ?_) ?_ ?_
            rotate_left
            ·show Act.put _ (some 133) _ = _
             simp only [Act.put, List.setIfInBounds_toArray, List.set_cons_zero, List.set_cons_succ, i64_w, i32_w]
             rfl
            refine one_ (i := 47) (N := some 135) #[true, true, true, true, true, true, true, true, true, true, true, true, true, true, true, true, true, true, true, true, true, true, true, true, true, true, true, true, true, true, true, true, true, true, true, true, true, true, true, true, true, true, true, true, true, true, true, true, true, false, false, false, false, false] rfl rfl (one_of HT_.out (by kernel_rfl)) (by decide) (fun K hK => ?_)
            refine goes_ Try.func24 (by kernel_rfl) rfl #[.agg #[.int .i64 t537, .string t538]] (by rfl) rfl rfl (by (try simp only [List.map_toArray, List.map_cons, List.map_nil]); first | done | rfl | (simp only [List.length_drop, List.length_take]; rfl)) ?_
            with_reducible refine (impl_TableCount.calls kj7 t537 t538 t563 _ A62.out).mono ?_
            rintro e w135 ⟨rfl, hb⟩
            refine ⟨_, rfl, ?_⟩
            have n0_ := bb BK517 hb
            have n1_ := bb BK518 hb
            have n2_ := bb BK522 hb
            have n3_ := bb BK526 hb
            have n4_ := bb BK530 hb
            have n5_ := bb BK534 hb
            have n6_ := bb BK540 hb
            have n7_ := bb BK546 hb
            have n8_ := bb BK550 hb
            have n9_ := bs HB hb
            clear BK517
            clear BK518
            clear BK522
            clear BK526
            clear BK530
            clear BK534
            clear BK540
            clear BK546
            clear BK550
            clear HB
            have BK517 := n0_
            have BK518 := n1_
            have BK522 := n2_
            have BK526 := n3_
            have BK530 := n4_
            have BK534 := n5_
            have BK540 := n6_
            have BK546 := n7_
            have BK550 := n8_
            have HB := n9_
            clear n0_ n1_ n2_ n3_ n4_ n5_ n6_ n7_ n8_ n9_
            (try clear hb)
            (try clear hb2)
            (try clear hk)
            (try clear hi)
            refine hK.out _ _ ⟨(blk_cell BK534.out 0).trans rfl, (blk_cell BK534.out 1).trans rfl, (blk_cell BK517.out 0).trans rfl, (blk_cell BK517.out 1).trans rfl, (blk_cell BK550.out 0).trans rfl, (blk_cell BK550.out 1).trans rfl, (blk_cell BK526.out 0).trans rfl, (blk_cell BK526.out 1).trans rfl, (blk_cell BK518.out 0).trans rfl, (blk_cell BK518.out 1).trans rfl, (blk_cell BK522.out 0).trans rfl, (blk_cell BK522.out 1).trans rfl, (blk_cell BK540.out 0).trans rfl, (blk_cell BK540.out 1).trans rfl, (blk_cell BK546.out 0).trans rfl, (blk_cell BK546.out 1).trans rfl⟩ (fun hHeld => ?_)
            clear hK K
            refine norm_ (a' := ?_) ?_ ?_
            rotate_left
            ·show Act.put _ (some 135) _ = _
             simp only [Act.put, List.setIfInBounds_toArray, List.set_cons_zero, List.set_cons_succ, i64_w, i32_w]
             rfl
            refine one_ (i := 49) (N := some 137) #[true, true, true, true, true, true, true, true, true, true, true, true, true, true, true, true, true, true, true, true, true, true, true, true, true, true, true, true, true, true, true, true, true, true, true, true, true, true, true, true, true, true, true, true, true, true, true, true, true, true, false, false, false, false] rfl rfl (one_of HT_.out (by kernel_rfl)) (by decide) (fun K hK => ?_)
            refine goes_ Try.func24 (by kernel_rfl) rfl #[.agg #[.int .i64 t543, .string t544]] (by rfl) rfl rfl (by (try simp only [List.map_toArray, List.map_cons, List.map_nil]); first | done | rfl | (simp only [List.length_drop, List.length_take]; rfl)) ?_
            with_reducible refine (impl_TableCount.calls kj7 t543 t544 t564 _ A63.out).mono ?_
            rintro e w136 ⟨rfl, hb⟩
            refine ⟨_, rfl, ?_⟩
            have n0_ := bb BK517 hb
            have n1_ := bb BK518 hb
            have n2_ := bb BK522 hb
            have n3_ := bb BK526 hb
            have n4_ := bb BK530 hb
            have n5_ := bb BK534 hb
            have n6_ := bb BK540 hb
            have n7_ := bb BK546 hb
            have n8_ := bb BK550 hb
            have n9_ := bs HB hb
            clear BK517
            clear BK518
            clear BK522
            clear BK526
            clear BK530
            clear BK534
            clear BK540
            clear BK546
            clear BK550
            clear HB
            have BK517 := n0_
            have BK518 := n1_
            have BK522 := n2_
            have BK526 := n3_
            have BK530 := n4_
            have BK534 := n5_
            have BK540 := n6_
            have BK546 := n7_
            have BK550 := n8_
            have HB := n9_
            clear n0_ n1_ n2_ n3_ n4_ n5_ n6_ n7_ n8_ n9_
            (try clear hb)
            (try clear hb2)
            (try clear hk)
            (try clear hi)
            refine hK.out _ _ ⟨(blk_cell BK534.out 0).trans rfl, (blk_cell BK534.out 1).trans rfl, (blk_cell BK517.out 0).trans rfl, (blk_cell BK517.out 1).trans rfl, (blk_cell BK550.out 0).trans rfl, (blk_cell BK550.out 1).trans rfl, (blk_cell BK526.out 0).trans rfl, (blk_cell BK526.out 1).trans rfl, (blk_cell BK518.out 0).trans rfl, (blk_cell BK518.out 1).trans rfl, (blk_cell BK522.out 0).trans rfl, (blk_cell BK522.out 1).trans rfl, (blk_cell BK540.out 0).trans rfl, (blk_cell BK540.out 1).trans rfl, (blk_cell BK546.out 0).trans rfl, (blk_cell BK546.out 1).trans rfl⟩ (fun hHeld => ?_)
            clear hK K
            refine norm_ (a' := ?_) ?_ ?_
            rotate_left
            ·show Act.put _ (some 137) _ = _
             simp only [Act.put, List.setIfInBounds_toArray, List.set_cons_zero, List.set_cons_succ, i64_w, i32_w]
             rfl
            refine pure_ (i := 50) (N := some 138) (v := ?_) (a' := ?_) #[true, true, true, true, true, true, true, true, true, true, true, true, true, true, true, true, true, true, true, true, true, true, true, true, true, true, true, true, true, true, true, true, true, true, true, true, true, true, true, true, true, true, true, true, true, true, true, true, true, true, true, false, false, false] rfl rfl (any_of HT_.out (by kernel_rfl)) (fun _ _ _ h => h) (Or.inl ⟨by rfl, ?_⟩) ?_ ?_
            rotate_left
            ·intro w'
             go_simp
             with_reducible rfl
            rotate_left
            ·simp only [Act.put, List.setIfInBounds_toArray, List.set_cons_zero, List.set_cons_succ, i64_w, i32_w]
             rfl
            refine pure_ (i := 51) (N := some 139) (v := ?_) (a' := ?_) #[true, true, true, true, true, true, true, true, true, true, true, true, true, true, true, true, true, true, true, true, true, true, true, true, true, true, true, true, true, true, true, true, true, true, true, true, true, true, true, true, true, true, true, true, true, true, true, true, true, true, true, true, false, false] rfl rfl (any_of HT_.out (by kernel_rfl)) (fun _ _ _ h => h) (Or.inl ⟨by rfl, ?_⟩) ?_ ?_
            rotate_left
            ·intro w'
             go_simp
             with_reducible rfl
            rotate_left
            ·simp only [Act.put, List.setIfInBounds_toArray, List.set_cons_zero, List.set_cons_succ, i64_w, i32_w]
             rfl
            refine pure_ (i := 52) (N := some 140) (v := ?_) (a' := ?_) #[true, true, true, true, true, true, true, true, true, true, true, true, true, true, true, true, true, true, true, true, true, true, true, true, true, true, true, true, true, true, true, true, true, true, true, true, true, true, true, true, true, true, true, true, true, true, true, true, true, true, true, true, true, false] rfl rfl (any_of HT_.out (by kernel_rfl)) (fun _ _ _ h => h) (Or.inl ⟨by rfl, ?_⟩) ?_ ?_
            rotate_left
            ·intro w'
             go_simp
             with_reducible rfl
            rotate_left
            ·simp only [Act.put, List.setIfInBounds_toArray, List.set_cons_zero, List.set_cons_succ, i64_w, i32_w]
             rfl
            refine pure_ (i := 53) (N := some 2) (v := ?_) (a' := ?_) #[true, true, true, true, true, true, true, true, true, true, true, true, true, true, true, true, true, true, true, true, true, true, true, true, true, true, true, true, true, true, true, true, true, true, true, true, true, true, true, true, true, true, true, true, true, true, true, true, true, true, true, true, true, true] rfl rfl (any_of HT_.out (by kernel_rfl)) (fun _ _ _ h => h) (Or.inl ⟨by rfl, ?_⟩) ?_ ?_
            rotate_left
            ·intro w'
             go_simp
             with_reducible rfl
            rotate_left
            ·simp only [Act.put, List.setIfInBounds_toArray, List.set_cons_zero, List.set_cons_succ, i64_w, i32_w]
             rfl
            refine done_ (done_of HT_.out (by kernel_rfl)) ?_
            try go_wp2
            go_ret
            exact ⟨by first | rfl | (simp [errW_none, errW_some] <;> rfl) | (simp [*, errW_none, errW_some] <;> rfl), by repeat (first | (with_reducible first | exact HB.out | apply below_alloc | apply pw_below_drewN | apply below_drew1 | refine below_set ?_ GE517.out | refine below_set ?_ GE518.out | refine below_set ?_ GE522.out | refine below_set ?_ GE526.out | refine below_set ?_ GE530.out | refine below_set ?_ GE534.out | refine below_set ?_ GE540.out | refine below_set ?_ GE546.out | refine below_set ?_ GE550.out) | exact HB.out)⟩
           ·rw [if_neg c60] at H
            have c60b0 : ((wrap64 (t559 + t560)) == t561) = false := beq_eq_false_iff_ne.mpr c60
            have c60b1 : ((wrap64 (t559 + t560)) != t561) = true := bne_iff_ne.mpr c60
            exact absurd ((Option.some.inj H).trans HT.out) (by decide)
          ·rw [if_neg c56] at H
           have c56b0 : ((t557.toList == t558.toList) == (t513 == t515 && (t514.toList == t516.toList))) = false := by simpa using c56
           (try (have c56b1 : decide ((t557.toList == t558.toList) = (t513 == t515 && (t514.toList == t516.toList))) = false := by simpa using c56))
           (try (have c56b2 : ((t557.toList == t558.toList) == (t513 == t515 && (t514.toList == t516.toList))) = false := by simpa using c56))
           (try (have c56b3 : ¬ ((t557.toList == t558.toList) = (t513 == t515 && (t514.toList == t516.toList))) := by simpa using c56))
           clear c56
           exact absurd ((Option.some.inj H).trans HT.out) (by decide)
         ·rw [if_neg c53] at H
          have c53b0 : (t555.toList == t556.toList) = false := beq_eq_false_iff_ne.mpr c53
          have c53b1 : (t555.toList != t556.toList) = true := bne_iff_ne.mpr c53
          exact absurd ((Option.some.inj H).trans HT.out) (by decide)
        ·rw [if_neg c50] at H
         have c50b0 : (t553 == t513 && (t554.toList == t514.toList)) = false := by simpa using c50
         (try (have c50b1 : decide (t553 = t513 && (t554.toList == t514.toList)) = false := by simpa using c50))
         (try (have c50b2 : (t553 == t513 && (t554.toList == t514.toList)) = false := by simpa using c50))
         (try (have c50b3 : ¬ (t553 = t513 && (t554.toList == t514.toList)) := by simpa using c50))
         clear c50
         exact absurd ((Option.some.inj H).trans HT.out) (by decide)
       ·rw [if_neg c47] at H
        have c47b0 : (t547 == t523 && (t548.toList == t524.toList)) = false := by simpa using c47
        (try (have c47b1 : decide (t547 = t523 && (t548.toList == t524.toList)) = false := by simpa using c47))
        (try (have c47b2 : (t547 == t523 && (t548.toList == t524.toList)) = false := by simpa using c47))
        (try (have c47b3 : ¬ (t547 = t523 && (t548.toList == t524.toList)) := by simpa using c47))
        clear c47
        exact absurd ((Option.some.inj H).trans HT.out) (by decide)
      ·rw [if_neg c46] at H
       have c46b0 : (t531 == t513 && (t532.toList == t514.toList)) = false := by simpa using c46
       (try (have c46b1 : decide (t531 = t513 && (t532.toList == t514.toList)) = false := by simpa using c46))
       (try (have c46b2 : (t531 == t513 && (t532.toList == t514.toList)) = false := by simpa using c46))
       (try (have c46b3 : ¬ (t531 = t513 && (t532.toList == t514.toList)) := by simpa using c46))
       clear c46
       exact absurd ((Option.some.inj H).trans HT.out) (by decide)
     ·replace c39 := Bool.eq_false_iff.mpr c39
      subst c39
      have H1 : (if t520.toList = ([] : List UInt8) then (some (t524.toList == ([] : List UInt8))) else (some false)) = some r := by rw [if_neg (show ¬ (false = true) by decide)] at H; exact H
      clear H
      have H := H1
      clear H1
      by_cases c137 : t520.toList = ([] : List UInt8)
      ·rw [if_pos c137] at H
       have c137b0 : (t520.toList == ([] : List UInt8)) = true := beq_iff_eq.mpr c137
       have c137b1 : (t520.toList != ([] : List UInt8)) = false := bne_eq_false_iff_eq.mpr c137
       clear c137
       obtain rfl := Option.some.inj H
       have hnb138 := NB522_517.out
       have hnc138 := NB517_522.out
       have hnb139 := NB522_518.out
       have hnc139 := NB518_522.out
       have hnb140 := NB522_526.out
       have hnc140 := NB526_522.out
       have hnb141 := NB522_530.out
       have hnc141 := NB530_522.out
       have hcz142_0 : wc.cell? ⟨gb522, 0, none⟩ = some (.int .i64 t519) := (blk_cell BK522.out 0).trans rfl
       have hcz142_1 : wc.cell? ⟨gb522, 1, none⟩ = some (.string t520) := (blk_cell BK522.out 1).trans rfl
       have hfz142_0 := blk_frozen BK522.out 0
       have hfz142_1 := blk_frozen BK522.out 1
       have hnb143 := NB526_517.out
       have hnc143 := NB517_526.out
       have hnb144 := NB526_518.out
       have hnc144 := NB518_526.out
       have hnb145 := NB526_530.out
       have hnc145 := NB530_526.out
       have hcz146_0 : wc.cell? ⟨gb526, 0, none⟩ = some (.int .i64 t523) := (blk_cell BK526.out 0).trans rfl
       have hcz146_1 : wc.cell? ⟨gb526, 1, none⟩ = some (.string t524) := (blk_cell BK526.out 1).trans rfl
       have hfz146_0 := blk_frozen BK526.out 0
       have hfz146_1 := blk_frozen BK526.out 1
       go_wp2
       go_ret
       exact ⟨by first | rfl | (simp [errW_none, errW_some] <;> rfl) | (simp [*, errW_none, errW_some] <;> rfl), by repeat (first | (with_reducible first | exact HB.out | apply below_alloc | apply pw_below_drewN | apply below_drew1 | refine below_set ?_ GE517.out | refine below_set ?_ GE518.out | refine below_set ?_ GE522.out | refine below_set ?_ GE526.out | refine below_set ?_ GE530.out) | exact HB.out)⟩
      ·rw [if_neg c137] at H
       have c137b0 : (t520.toList == ([] : List UInt8)) = false := beq_eq_false_iff_ne.mpr c137
       have c137b1 : (t520.toList != ([] : List UInt8)) = true := bne_iff_ne.mpr c137
       exact absurd ((Option.some.inj H).trans HT.out) (by decide)

end Go.Proofs.Ythipjoioicmcnaa.G
