-- texts of this session, merged by a program of it (wip/gen/pack.py)
import Derived.Test.YthipjoioicmcnaaKFnHalves1
import Derived.Test.YthipjoioicmcnaaKFnHalves2
import Derived.Test.YthipjoioicmcnaaKFnHalves3
import Derived.Test.YthipjoioicmcnaaKFnHalves4
-- written by a program of this session (wip/gen/gen.py); Lean checks it
namespace Go.Proofs.Ythipjoioicmcnaa.G
open Go.Proofs.Ythipjoioicmcnaa.Sh Go.RowKit Go.Proofs.YthipjoioicmcnaaW.PrintWords Go.Proofs.YthipjoioicmcnaaW.PrintLast Go.Proofs.YthipjoioicmcnaaW.PrintMore
attribute [local go_sem] max2_int min2_int max_two min_two max_three min_three max_four min_four   -- for this text's walks alone
set_option linter.unusedVariables false
set_option linter.unusedSimpArgs false

attribute [local go_sem high] eqA26
/-! ### laws_FnHalves: function 5 -/
def laws_FnHalves.j0 : Nat → Int → Bool → Int → ByteArray → Int → ByteArray → Int → ByteArray → Option (Bool)
  | 0, _, _, _, _, _, _, _, _ => none
  | k + 1, x4, x109, x390000, x390001, x410000, x410001, x414000, x414001 => if x109 = true then (some false) else ((impl_Known.f k x410000 x410001).bind fun t416 => ((impl_Known.f k x414000 x414001).bind fun t417 => (if t416 ≥ 0 then (if ((decide (x4 ≥ 0)) != (t416 == t417)) = true then (some false) else (if x4 ≥ 0 then (if x4 = t416 then ((impl_Needs.f k x390000 x390001).bind fun t418 => (if (t418.length : Int) > 0 then (if 0 < (t418.length : Int) then (if (((rd t418 0) == 0) == (!(x410000 == x414000) || (!(x410001.toList == x414001.toList)))) = true then (some ((decide (x4 ≥ 0)) == ((t418.length : Int) == 0))) else (some false)) else (none)) else (if (false == (!(x410000 == x414000) || (!(x410001.toList == x414001.toList)))) = true then (some ((decide (x4 ≥ 0)) == ((t418.length : Int) == 0))) else (some false)))) else (some false)) else ((impl_Needs.f k x390000 x390001).bind fun t422 => (if (t422.length : Int) > 0 then (if 0 < (t422.length : Int) then (if (((rd t422 0) == 0) == (!(x410000 == x414000) || (!(x410001.toList == x414001.toList)))) = true then (some ((decide (x4 ≥ 0)) == ((t422.length : Int) == 0))) else (some false)) else (none)) else (if (false == (!(x410000 == x414000) || (!(x410001.toList == x414001.toList)))) = true then (some ((decide (x4 ≥ 0)) == ((t422.length : Int) == 0))) else (some false)))))) else (if ((decide (x4 ≥ 0)) != false) = true then (some false) else (if x4 ≥ 0 then (if x4 = t416 then ((impl_Needs.f k x390000 x390001).bind fun t426 => (if (t426.length : Int) > 0 then (if 0 < (t426.length : Int) then (if (((rd t426 0) == 0) == (!(x410000 == x414000) || (!(x410001.toList == x414001.toList)))) = true then (some ((decide (x4 ≥ 0)) == ((t426.length : Int) == 0))) else (some false)) else (none)) else (if (false == (!(x410000 == x414000) || (!(x410001.toList == x414001.toList)))) = true then (some ((decide (x4 ≥ 0)) == ((t426.length : Int) == 0))) else (some false)))) else (some false)) else ((impl_Needs.f k x390000 x390001).bind fun t430 => (if (t430.length : Int) > 0 then (if 0 < (t430.length : Int) then (if (((rd t430 0) == 0) == (!(x410000 == x414000) || (!(x410001.toList == x414001.toList)))) = true then (some ((decide (x4 ≥ 0)) == ((t430.length : Int) == 0))) else (some false)) else (none)) else (if (false == (!(x410000 == x414000) || (!(x410001.toList == x414001.toList)))) = true then (some ((decide (x4 ≥ 0)) == ((t430.length : Int) == 0))) else (some false)))))))))
def laws_FnHalves.f (k : Nat) (l0 : List Int) : Option (Bool) := (laws_big.f l0).bind fun t386 => (if t386 = true then (some true) else ((spec_DrawKnown.f k l0).bind fun bt387 => ((spec_TableOk.f k bt387.1 bt387.2).bind fun t390 => (if t390 = true then ((impl_Known.f k bt387.1 bt387.2).bind fun t397 => ((impl_TableCount.f k bt387.1 bt387.2).bind fun t398 => (if bt387.1 = 0 then ((impl_Half.f k bt387.1 bt387.2 0).bind fun bt399 => (if bt399.2.2 = true then (some false) else (if t397 = t398 then ((impl_Needs.f k bt387.1 bt387.2).bind fun t403 => (some ((t403.length : Int) == 0))) else (some false)))) else ((impl_Half.f k bt387.1 bt387.2 0).bind fun bt406 => ((impl_Half.f k bt387.1 bt387.2 1).bind fun bt410 => (if bt406.2.2 = true then (if bt410.2.2 = true then (if bt406.1 = (wrap64 (bt387.1 - 1)) then (if bt406.2.1.size + bt410.2.1.size ≤ 9223372036854775807 then (if (bt406.2.1 ++ bt410.2.1).toList = bt387.2.toList then ((impl_TableCount.f k bt406.1 bt406.2.1).bind fun t414 => ((impl_TableCount.f k bt410.1 bt410.2.1).bind fun t415 => (laws_FnHalves.j0 k t397 ((wrap64 (t414 + t415)) != t398) bt387.1 bt387.2 bt406.1 bt406.2.1 bt410.1 bt410.2.1))) else (laws_FnHalves.j0 k t397 true bt387.1 bt387.2 bt406.1 bt406.2.1 bt410.1 bt410.2.1)) else (none)) else (laws_FnHalves.j0 k t397 true bt387.1 bt387.2 bt406.1 bt406.2.1 bt410.1 bt410.2.1)) else (laws_FnHalves.j0 k t397 true bt387.1 bt387.2 bt406.1 bt406.2.1 bt410.1 bt410.2.1)) else (laws_FnHalves.j0 k t397 true bt387.1 bt387.2 bt406.1 bt406.2.1 bt410.1 bt410.2.1))))))) else ((impl_Known.f k bt387.1 bt387.2).bind fun t391 => (if t391 = (-1) then ((impl_Needs.f k bt387.1 bt387.2).bind fun t392 => (if (t392.length : Int) = 0 then ((impl_TableCount.f k bt387.1 bt387.2).bind fun t395 => (if t395 = (-1) then ((impl_TableKey.f k bt387.1 bt387.2).bind fun t396 => (some (t396.toList == ([] : List UInt8)))) else (some false))) else (some false))) else (some false)))))))
def laws_FnHalves.T13 : Bool × List (List Nat × List Nat) := (true, [([], []), ([0], [0]), ([1], [1]), ([2], [2]), ([3, 2], [2, 3]), ([2, 4], [2, 4]), ([5, 2], [5]), ([6], [6]), ([7, 6], [6, 7]), ([6], [6]), ([9, 6], [6, 9]), ([10, 6], [6, 10]), ([8, 11, 6], [6, 8, 11]), ([6, 12], [6, 12]), ([13, 6], [13]), ([14], [14]), ([15, 14], [14, 15]), ([14], [14]), ([17, 14], [14, 17]), ([16, 18, 14], [14, 16, 18]), ([14], [14]), ([20, 14], [14, 20]), ([19, 21, 14], [14, 19, 21]), ([14, 22], [14, 22]), ([23, 14], [23]), ([24], [24]), ([25, 24, 24], [24, 25]), ([24], [24]), ([27, 26, 24], [24, 27]), ([26, 28, 24], [24, 26, 28]), ([24], [24]), ([29, 30, 24], [24, 29, 30]), ([24, 31], [24, 31])])
def laws_FnHalves.B13 : List Nat := [0, 1, 3, 7, 15, 31, 63, 127, 255, 127, 639, 1663, 4095, 8191, 16383, 32767, 65535, 32767, 163839, 524287, 32767, 1081343, 4194303, 8388607, 16777215, 33554431, 67108863, 33554431, 268435455, 536870911, 33554431, 2147483647, 4294967295]
theorem laws_FnHalves.tab13 : rtab .any (opsOf Try.f5 13) = laws_FnHalves.T13 := by kernel_rfl
theorem laws_FnHalves.bits13 : waitsOk laws_FnHalves.T13.2 laws_FnHalves.B13 = true := by kernel_rfl
set_option maxHeartbeats 8000000 in
set_option maxRecDepth 100000 in
theorem laws_FnHalves.calls (k : Nat) (A0 : Option Addr) (c0 : Nat) (l0 : List Int) (r : Bool) (w : World) (hr0 : Kd.C (Kd.int .u8) w A0 l0.length l0) (hc0 : l0.length ≤ c0) (ht_ : r = true) (h : laws_FnHalves.f k l0 = some r) :
  Calls Try.prog 5 #[.slice A0 l0.length c0] w fun e w' => e = .returned (.bool r) ∧ Below w.heap.size w w' := by
 have hu26 := Try.underlying26
 have HT := Aside0.mk ht_
 clear ht_
 have HR0 := Aside0.mk hr0
 have HC0 := Aside0.mk hc0
 clear hr0 hc0
 have HB := Aside0.mk (Below.refl w.heap.size w)
 have H : ((laws_big.f l0).bind fun t386 => (if t386 = true then (some true) else ((spec_DrawKnown.f k l0).bind fun bt387 => ((spec_TableOk.f k bt387.1 bt387.2).bind fun t390 => (if t390 = true then ((impl_Known.f k bt387.1 bt387.2).bind fun t397 => ((impl_TableCount.f k bt387.1 bt387.2).bind fun t398 => (if bt387.1 = 0 then ((impl_Half.f k bt387.1 bt387.2 0).bind fun bt399 => (if bt399.2.2 = true then (some false) else (if t397 = t398 then ((impl_Needs.f k bt387.1 bt387.2).bind fun t403 => (some ((t403.length : Int) == 0))) else (some false)))) else ((impl_Half.f k bt387.1 bt387.2 0).bind fun bt406 => ((impl_Half.f k bt387.1 bt387.2 1).bind fun bt410 => (if bt406.2.2 = true then (if bt410.2.2 = true then (if bt406.1 = (wrap64 (bt387.1 - 1)) then (if bt406.2.1.size + bt410.2.1.size ≤ 9223372036854775807 then (if (bt406.2.1 ++ bt410.2.1).toList = bt387.2.toList then ((impl_TableCount.f k bt406.1 bt406.2.1).bind fun t414 => ((impl_TableCount.f k bt410.1 bt410.2.1).bind fun t415 => (laws_FnHalves.j0 k t397 ((wrap64 (t414 + t415)) != t398) bt387.1 bt387.2 bt406.1 bt406.2.1 bt410.1 bt410.2.1))) else (laws_FnHalves.j0 k t397 true bt387.1 bt387.2 bt406.1 bt406.2.1 bt410.1 bt410.2.1)) else (none)) else (laws_FnHalves.j0 k t397 true bt387.1 bt387.2 bt406.1 bt406.2.1 bt410.1 bt410.2.1)) else (laws_FnHalves.j0 k t397 true bt387.1 bt387.2 bt406.1 bt406.2.1 bt410.1 bt410.2.1)) else (laws_FnHalves.j0 k t397 true bt387.1 bt387.2 bt406.1 bt406.2.1 bt410.1 bt410.2.1))))))) else ((impl_Known.f k bt387.1 bt387.2).bind fun t391 => (if t391 = (-1) then ((impl_Needs.f k bt387.1 bt387.2).bind fun t392 => (if (t392.length : Int) = 0 then ((impl_TableCount.f k bt387.1 bt387.2).bind fun t395 => (if t395 = (-1) then ((impl_TableKey.f k bt387.1 bt387.2).bind fun t396 => (some (t396.toList == ([] : List UInt8)))) else (some false))) else (some false))) else (some false)))))))) = some r := h
 clear h
 replace H := Option.bind_eq_some_iff.mp H
 obtain ⟨t386, A20, H⟩ := H
 replace H : (if t386 = true then (some true) else ((spec_DrawKnown.f k l0).bind fun bt387 => ((spec_TableOk.f k bt387.1 bt387.2).bind fun t390 => (if t390 = true then ((impl_Known.f k bt387.1 bt387.2).bind fun t397 => ((impl_TableCount.f k bt387.1 bt387.2).bind fun t398 => (if bt387.1 = 0 then ((impl_Half.f k bt387.1 bt387.2 0).bind fun bt399 => (if bt399.2.2 = true then (some false) else (if t397 = t398 then ((impl_Needs.f k bt387.1 bt387.2).bind fun t403 => (some ((t403.length : Int) == 0))) else (some false)))) else ((impl_Half.f k bt387.1 bt387.2 0).bind fun bt406 => ((impl_Half.f k bt387.1 bt387.2 1).bind fun bt410 => (if bt406.2.2 = true then (if bt410.2.2 = true then (if bt406.1 = (wrap64 (bt387.1 - 1)) then (if bt406.2.1.size + bt410.2.1.size ≤ 9223372036854775807 then (if (bt406.2.1 ++ bt410.2.1).toList = bt387.2.toList then ((impl_TableCount.f k bt406.1 bt406.2.1).bind fun t414 => ((impl_TableCount.f k bt410.1 bt410.2.1).bind fun t415 => (laws_FnHalves.j0 k t397 ((wrap64 (t414 + t415)) != t398) bt387.1 bt387.2 bt406.1 bt406.2.1 bt410.1 bt410.2.1))) else (laws_FnHalves.j0 k t397 true bt387.1 bt387.2 bt406.1 bt406.2.1 bt410.1 bt410.2.1)) else (none)) else (laws_FnHalves.j0 k t397 true bt387.1 bt387.2 bt406.1 bt406.2.1 bt410.1 bt410.2.1)) else (laws_FnHalves.j0 k t397 true bt387.1 bt387.2 bt406.1 bt406.2.1 bt410.1 bt410.2.1)) else (laws_FnHalves.j0 k t397 true bt387.1 bt387.2 bt406.1 bt406.2.1 bt410.1 bt410.2.1))))))) else ((impl_Known.f k bt387.1 bt387.2).bind fun t391 => (if t391 = (-1) then ((impl_Needs.f k bt387.1 bt387.2).bind fun t392 => (if (t392.length : Int) = 0 then ((impl_TableCount.f k bt387.1 bt387.2).bind fun t395 => (if t395 = (-1) then ((impl_TableKey.f k bt387.1 bt387.2).bind fun t396 => (some (t396.toList == ([] : List UInt8)))) else (some false))) else (some false))) else (some false))))))) = some r := H
 have A2 := Aside0.mk A20
 clear A20
 by_cases c3 : t386 = true
 ·subst c3
  have H1 : (some true) = some r := by rw [if_pos rfl] at H; exact H
  clear H
  have H := H1
  clear H1
  obtain rfl := Option.some.inj H
  go_enter Try.func5, Try.ntmps5
  go_wp2_with (first | ((with_reducible refine gate_callee (f := 11) rfl ?_); refine goesL_ (some 17) rfl rfl Try.func11 (by kernel_rfl) rfl #[.slice A0 l0.length c0] rfl (by (try simp only [List.map_toArray, List.map_cons, List.map_nil]); first | done | rfl | (simp only [List.length_drop, List.length_take]; rfl)) ?_; (with_reducible refine (laws_big.calls _ _ l0 true _ ?side1 ?side2 A2.out).mono ?_); (case side1 => repeat (first | exact HR0.out | (with_reducible refine Kd.C_alloc ?_ _) | (with_reducible refine Kd.C_drewN ?_ _) | (with_reducible refine Kd.C_drew ?_))); (case side2 => exact HC0.out); rintro e w' ⟨rfl, ⟨nd, rfl⟩⟩; refine ⟨_, rfl, ?_⟩))
  go_ret
  exact ⟨by first | rfl | (simp [errW_none, errW_some] <;> rfl) | (simp [*, errW_none, errW_some] <;> rfl), by repeat (first | (with_reducible first | exact HB.out | apply below_alloc | apply pw_below_drewN | apply below_drew1) | exact HB.out)⟩
 ·replace c3 := Bool.eq_false_iff.mpr c3
  subst c3
  have H1 : ((spec_DrawKnown.f k l0).bind fun bt387 => ((spec_TableOk.f k bt387.1 bt387.2).bind fun t390 => (if t390 = true then ((impl_Known.f k bt387.1 bt387.2).bind fun t397 => ((impl_TableCount.f k bt387.1 bt387.2).bind fun t398 => (if bt387.1 = 0 then ((impl_Half.f k bt387.1 bt387.2 0).bind fun bt399 => (if bt399.2.2 = true then (some false) else (if t397 = t398 then ((impl_Needs.f k bt387.1 bt387.2).bind fun t403 => (some ((t403.length : Int) == 0))) else (some false)))) else ((impl_Half.f k bt387.1 bt387.2 0).bind fun bt406 => ((impl_Half.f k bt387.1 bt387.2 1).bind fun bt410 => (if bt406.2.2 = true then (if bt410.2.2 = true then (if bt406.1 = (wrap64 (bt387.1 - 1)) then (if bt406.2.1.size + bt410.2.1.size ≤ 9223372036854775807 then (if (bt406.2.1 ++ bt410.2.1).toList = bt387.2.toList then ((impl_TableCount.f k bt406.1 bt406.2.1).bind fun t414 => ((impl_TableCount.f k bt410.1 bt410.2.1).bind fun t415 => (laws_FnHalves.j0 k t397 ((wrap64 (t414 + t415)) != t398) bt387.1 bt387.2 bt406.1 bt406.2.1 bt410.1 bt410.2.1))) else (laws_FnHalves.j0 k t397 true bt387.1 bt387.2 bt406.1 bt406.2.1 bt410.1 bt410.2.1)) else (none)) else (laws_FnHalves.j0 k t397 true bt387.1 bt387.2 bt406.1 bt406.2.1 bt410.1 bt410.2.1)) else (laws_FnHalves.j0 k t397 true bt387.1 bt387.2 bt406.1 bt406.2.1 bt410.1 bt410.2.1)) else (laws_FnHalves.j0 k t397 true bt387.1 bt387.2 bt406.1 bt406.2.1 bt410.1 bt410.2.1))))))) else ((impl_Known.f k bt387.1 bt387.2).bind fun t391 => (if t391 = (-1) then ((impl_Needs.f k bt387.1 bt387.2).bind fun t392 => (if (t392.length : Int) = 0 then ((impl_TableCount.f k bt387.1 bt387.2).bind fun t395 => (if t395 = (-1) then ((impl_TableKey.f k bt387.1 bt387.2).bind fun t396 => (some (t396.toList == ([] : List UInt8)))) else (some false))) else (some false))) else (some false)))))) = some r := by rw [if_neg (show ¬ (false = true) by decide)] at H; exact H
  clear H
  have H := H1
  clear H1
  replace H := Option.bind_eq_some_iff.mp H
  obtain ⟨⟨t387, t388⟩, A40, H⟩ := H
  replace H : ((spec_TableOk.f k t387 t388).bind fun t390 => (if t390 = true then ((impl_Known.f k t387 t388).bind fun t397 => ((impl_TableCount.f k t387 t388).bind fun t398 => (if t387 = 0 then ((impl_Half.f k t387 t388 0).bind fun bt399 => (if bt399.2.2 = true then (some false) else (if t397 = t398 then ((impl_Needs.f k t387 t388).bind fun t403 => (some ((t403.length : Int) == 0))) else (some false)))) else ((impl_Half.f k t387 t388 0).bind fun bt406 => ((impl_Half.f k t387 t388 1).bind fun bt410 => (if bt406.2.2 = true then (if bt410.2.2 = true then (if bt406.1 = (wrap64 (t387 - 1)) then (if bt406.2.1.size + bt410.2.1.size ≤ 9223372036854775807 then (if (bt406.2.1 ++ bt410.2.1).toList = t388.toList then ((impl_TableCount.f k bt406.1 bt406.2.1).bind fun t414 => ((impl_TableCount.f k bt410.1 bt410.2.1).bind fun t415 => (laws_FnHalves.j0 k t397 ((wrap64 (t414 + t415)) != t398) t387 t388 bt406.1 bt406.2.1 bt410.1 bt410.2.1))) else (laws_FnHalves.j0 k t397 true t387 t388 bt406.1 bt406.2.1 bt410.1 bt410.2.1)) else (none)) else (laws_FnHalves.j0 k t397 true t387 t388 bt406.1 bt406.2.1 bt410.1 bt410.2.1)) else (laws_FnHalves.j0 k t397 true t387 t388 bt406.1 bt406.2.1 bt410.1 bt410.2.1)) else (laws_FnHalves.j0 k t397 true t387 t388 bt406.1 bt406.2.1 bt410.1 bt410.2.1))))))) else ((impl_Known.f k t387 t388).bind fun t391 => (if t391 = (-1) then ((impl_Needs.f k t387 t388).bind fun t392 => (if (t392.length : Int) = 0 then ((impl_TableCount.f k t387 t388).bind fun t395 => (if t395 = (-1) then ((impl_TableKey.f k t387 t388).bind fun t396 => (some (t396.toList == ([] : List UInt8)))) else (some false))) else (some false))) else (some false))))) = some r := H
  have A4 := Aside0.mk A40
  clear A40
  replace H := Option.bind_eq_some_iff.mp H
  obtain ⟨t390, A50, H⟩ := H
  replace H : (if t390 = true then ((impl_Known.f k t387 t388).bind fun t397 => ((impl_TableCount.f k t387 t388).bind fun t398 => (if t387 = 0 then ((impl_Half.f k t387 t388 0).bind fun bt399 => (if bt399.2.2 = true then (some false) else (if t397 = t398 then ((impl_Needs.f k t387 t388).bind fun t403 => (some ((t403.length : Int) == 0))) else (some false)))) else ((impl_Half.f k t387 t388 0).bind fun bt406 => ((impl_Half.f k t387 t388 1).bind fun bt410 => (if bt406.2.2 = true then (if bt410.2.2 = true then (if bt406.1 = (wrap64 (t387 - 1)) then (if bt406.2.1.size + bt410.2.1.size ≤ 9223372036854775807 then (if (bt406.2.1 ++ bt410.2.1).toList = t388.toList then ((impl_TableCount.f k bt406.1 bt406.2.1).bind fun t414 => ((impl_TableCount.f k bt410.1 bt410.2.1).bind fun t415 => (laws_FnHalves.j0 k t397 ((wrap64 (t414 + t415)) != t398) t387 t388 bt406.1 bt406.2.1 bt410.1 bt410.2.1))) else (laws_FnHalves.j0 k t397 true t387 t388 bt406.1 bt406.2.1 bt410.1 bt410.2.1)) else (none)) else (laws_FnHalves.j0 k t397 true t387 t388 bt406.1 bt406.2.1 bt410.1 bt410.2.1)) else (laws_FnHalves.j0 k t397 true t387 t388 bt406.1 bt406.2.1 bt410.1 bt410.2.1)) else (laws_FnHalves.j0 k t397 true t387 t388 bt406.1 bt406.2.1 bt410.1 bt410.2.1))))))) else ((impl_Known.f k t387 t388).bind fun t391 => (if t391 = (-1) then ((impl_Needs.f k t387 t388).bind fun t392 => (if (t392.length : Int) = 0 then ((impl_TableCount.f k t387 t388).bind fun t395 => (if t395 = (-1) then ((impl_TableKey.f k t387 t388).bind fun t396 => (some (t396.toList == ([] : List UInt8)))) else (some false))) else (some false))) else (some false)))) = some r := H
  have A5 := Aside0.mk A50
  clear A50
  by_cases c6 : t390 = true
  ·subst c6
   have H1 : ((impl_Known.f k t387 t388).bind fun t397 => ((impl_TableCount.f k t387 t388).bind fun t398 => (if t387 = 0 then ((impl_Half.f k t387 t388 0).bind fun bt399 => (if bt399.2.2 = true then (some false) else (if t397 = t398 then ((impl_Needs.f k t387 t388).bind fun t403 => (some ((t403.length : Int) == 0))) else (some false)))) else ((impl_Half.f k t387 t388 0).bind fun bt406 => ((impl_Half.f k t387 t388 1).bind fun bt410 => (if bt406.2.2 = true then (if bt410.2.2 = true then (if bt406.1 = (wrap64 (t387 - 1)) then (if bt406.2.1.size + bt410.2.1.size ≤ 9223372036854775807 then (if (bt406.2.1 ++ bt410.2.1).toList = t388.toList then ((impl_TableCount.f k bt406.1 bt406.2.1).bind fun t414 => ((impl_TableCount.f k bt410.1 bt410.2.1).bind fun t415 => (laws_FnHalves.j0 k t397 ((wrap64 (t414 + t415)) != t398) t387 t388 bt406.1 bt406.2.1 bt410.1 bt410.2.1))) else (laws_FnHalves.j0 k t397 true t387 t388 bt406.1 bt406.2.1 bt410.1 bt410.2.1)) else (none)) else (laws_FnHalves.j0 k t397 true t387 t388 bt406.1 bt406.2.1 bt410.1 bt410.2.1)) else (laws_FnHalves.j0 k t397 true t387 t388 bt406.1 bt406.2.1 bt410.1 bt410.2.1)) else (laws_FnHalves.j0 k t397 true t387 t388 bt406.1 bt406.2.1 bt410.1 bt410.2.1))))))) = some r := by rw [if_pos rfl] at H; exact H
   clear H
   have H := H1
   clear H1
   replace H := Option.bind_eq_some_iff.mp H
   obtain ⟨t397, A70, H⟩ := H
   replace H : ((impl_TableCount.f k t387 t388).bind fun t398 => (if t387 = 0 then ((impl_Half.f k t387 t388 0).bind fun bt399 => (if bt399.2.2 = true then (some false) else (if t397 = t398 then ((impl_Needs.f k t387 t388).bind fun t403 => (some ((t403.length : Int) == 0))) else (some false)))) else ((impl_Half.f k t387 t388 0).bind fun bt406 => ((impl_Half.f k t387 t388 1).bind fun bt410 => (if bt406.2.2 = true then (if bt410.2.2 = true then (if bt406.1 = (wrap64 (t387 - 1)) then (if bt406.2.1.size + bt410.2.1.size ≤ 9223372036854775807 then (if (bt406.2.1 ++ bt410.2.1).toList = t388.toList then ((impl_TableCount.f k bt406.1 bt406.2.1).bind fun t414 => ((impl_TableCount.f k bt410.1 bt410.2.1).bind fun t415 => (laws_FnHalves.j0 k t397 ((wrap64 (t414 + t415)) != t398) t387 t388 bt406.1 bt406.2.1 bt410.1 bt410.2.1))) else (laws_FnHalves.j0 k t397 true t387 t388 bt406.1 bt406.2.1 bt410.1 bt410.2.1)) else (none)) else (laws_FnHalves.j0 k t397 true t387 t388 bt406.1 bt406.2.1 bt410.1 bt410.2.1)) else (laws_FnHalves.j0 k t397 true t387 t388 bt406.1 bt406.2.1 bt410.1 bt410.2.1)) else (laws_FnHalves.j0 k t397 true t387 t388 bt406.1 bt406.2.1 bt410.1 bt410.2.1)))))) = some r := H
   have A7 := Aside0.mk A70
   clear A70
   replace H := Option.bind_eq_some_iff.mp H
   obtain ⟨t398, A80, H⟩ := H
   replace H : (if t387 = 0 then ((impl_Half.f k t387 t388 0).bind fun bt399 => (if bt399.2.2 = true then (some false) else (if t397 = t398 then ((impl_Needs.f k t387 t388).bind fun t403 => (some ((t403.length : Int) == 0))) else (some false)))) else ((impl_Half.f k t387 t388 0).bind fun bt406 => ((impl_Half.f k t387 t388 1).bind fun bt410 => (if bt406.2.2 = true then (if bt410.2.2 = true then (if bt406.1 = (wrap64 (t387 - 1)) then (if bt406.2.1.size + bt410.2.1.size ≤ 9223372036854775807 then (if (bt406.2.1 ++ bt410.2.1).toList = t388.toList then ((impl_TableCount.f k bt406.1 bt406.2.1).bind fun t414 => ((impl_TableCount.f k bt410.1 bt410.2.1).bind fun t415 => (laws_FnHalves.j0 k t397 ((wrap64 (t414 + t415)) != t398) t387 t388 bt406.1 bt406.2.1 bt410.1 bt410.2.1))) else (laws_FnHalves.j0 k t397 true t387 t388 bt406.1 bt406.2.1 bt410.1 bt410.2.1)) else (none)) else (laws_FnHalves.j0 k t397 true t387 t388 bt406.1 bt406.2.1 bt410.1 bt410.2.1)) else (laws_FnHalves.j0 k t397 true t387 t388 bt406.1 bt406.2.1 bt410.1 bt410.2.1)) else (laws_FnHalves.j0 k t397 true t387 t388 bt406.1 bt406.2.1 bt410.1 bt410.2.1))))) = some r := H
   have A8 := Aside0.mk A80
   clear A80
   by_cases c9 : t387 = 0
   ·rw [if_pos c9] at H
    have c9b0 : (t387 == 0) = true := beq_iff_eq.mpr c9
    have c9b1 : (t387 != 0) = false := bne_eq_false_iff_eq.mpr c9
    clear c9
    replace H := Option.bind_eq_some_iff.mp H
    obtain ⟨⟨t399, t400, t401⟩, A100, H⟩ := H
    replace H : (if t401 = true then (some false) else (if t397 = t398 then ((impl_Needs.f k t387 t388).bind fun t403 => (some ((t403.length : Int) == 0))) else (some false))) = some r := H
    have A10 := Aside0.mk A100
    clear A100
    by_cases c11 : t401 = true
    ·subst c11
     have H1 : (some false) = some r := by rw [if_pos rfl] at H; exact H
     clear H
     have H := H1
     clear H1
     exact absurd ((Option.some.inj H).trans HT.out) (by decide)
    ·replace c11 := Bool.eq_false_iff.mpr c11
     subst c11
     have H1 : (if t397 = t398 then ((impl_Needs.f k t387 t388).bind fun t403 => (some ((t403.length : Int) == 0))) else (some false)) = some r := by rw [if_neg (show ¬ (false = true) by decide)] at H; exact H
     clear H
     have H := H1
     clear H1
     by_cases c12 : t397 = t398
     ·rw [if_pos c12] at H
      have c12b0 : (t397 == t398) = true := beq_iff_eq.mpr c12
      have c12b1 : (t397 != t398) = false := bne_eq_false_iff_eq.mpr c12
      clear c12
      replace H := Option.bind_eq_some_iff.mp H
      obtain ⟨t403, A130, H⟩ := H
      replace H : (some ((t403.length : Int) == 0)) = some r := H
      have A13 := Aside0.mk A130
      clear A130
      obtain rfl := Option.some.inj H
      go_enter Try.func5, Try.ntmps5
      go_wp2_with (first | ((with_reducible refine gate_callee (f := 11) rfl ?_); refine goesL_ (some 17) rfl rfl Try.func11 (by kernel_rfl) rfl #[.slice A0 l0.length c0] rfl (by (try simp only [List.map_toArray, List.map_cons, List.map_nil]); first | done | rfl | (simp only [List.length_drop, List.length_take]; rfl)) ?_; (with_reducible refine (laws_big.calls _ _ l0 false _ ?side1 ?side2 A2.out).mono ?_); (case side1 => repeat (first | exact HR0.out | (with_reducible refine Kd.C_alloc ?_ _) | (with_reducible refine Kd.C_drewN ?_ _) | (with_reducible refine Kd.C_drew ?_))); (case side2 => exact HC0.out); rintro e w' ⟨rfl, ⟨nd, rfl⟩⟩; refine ⟨_, rfl, ?_⟩) | ((with_reducible refine gate_callee (f := 22) rfl ?_); refine goesL_ (some 19) rfl rfl Try.func22 (by kernel_rfl) rfl #[.slice A0 l0.length c0] rfl (by (try simp only [List.map_toArray, List.map_cons, List.map_nil]); first | done | rfl | (simp only [List.length_drop, List.length_take]; rfl)) ?_; (with_reducible refine (spec_DrawKnown.calls k _ _ l0 t387 t388 _ ?side1 ?side2 A4.out).mono ?_); (case side1 => repeat (first | exact HR0.out | (with_reducible refine Kd.C_alloc ?_ _) | (with_reducible refine Kd.C_drewN ?_ _) | (with_reducible refine Kd.C_drew ?_))); (case side2 => exact HC0.out); rintro e w14 ⟨rfl, hb⟩; refine ⟨_, rfl, ?_⟩; have n0_ := bs HB hb; clear HB; have HB := n0_; clear n0_; (try clear hb); (try clear hb2); (try clear hk); (try clear hi)) | ((with_reducible refine gate_dst (N := 3) rfl ?_); (try (refine gate_guard (by rfl) ?_; dsimp only)); refine box_event ?hg (N := 3) ?hd (cs := #[.int .i64 0, .string (⟨#[]⟩ : ByteArray)]) (t := 26) ?hr ?_; (case hd => rfl); (case hg => rfl); (case hr => first | (go_simp; done) | (go_simp; rfl)); intro gb389 hg w15 hbox hb; have n0_ := bs HB hb; have n1_ := Aside0.mk (hbox); have n2_ := bz hg HB; have n3_ := bz hg HB; clear HB; have HB := n0_; have BK389 := n1_; have GW389 := n2_; have GE389 := n3_; clear n0_ n1_ n2_ n3_; clear hb hbox hg; have hcz16_0 : w15.cell? ⟨gb389, 0, none⟩ = some (.int .i64 0) := (blk_cell BK389.out 0).trans rfl; have hcz16_1 : w15.cell? ⟨gb389, 1, none⟩ = some (.string (⟨#[]⟩ : ByteArray)) := (blk_cell BK389.out 1).trans rfl; have hfz16_0 := blk_frozen BK389.out 0; have hfz16_1 := blk_frozen BK389.out 1) | ((with_reducible refine gate_callee (f := 23) rfl ?_); refine goesL_ (some 21) rfl rfl Try.func23 (by kernel_rfl) rfl #[.agg #[.int .i64 t387, .string t388]] rfl (by (try simp only [List.map_toArray, List.map_cons, List.map_nil]); first | done | rfl | (simp only [List.length_drop, List.length_take]; rfl)) ?_; (with_reducible refine (spec_TableOk.calls k t387 t388 true _ A5.out).mono ?_); rintro e w17 ⟨rfl, hb⟩; refine ⟨_, rfl, ?_⟩; have n0_ := Aside0.mk (blk_below (g := gb389) (o := .cells #[.int .i64 t387, .string t388] 26 (0, 0)) (by (with_reducible repeat (first | refine blk_drewN ?_ _ | refine blk_drew ?_ | refine blk_alloc ?_ _)); refine blk_put (cs := #[.int .i64 t387, .string (⟨#[]⟩ : ByteArray)]) ?_ 1 _ rfl; (with_reducible repeat (first | refine blk_drewN ?_ _ | refine blk_drew ?_ | refine blk_alloc ?_ _)); refine blk_put (cs := #[.int .i64 0, .string (⟨#[]⟩ : ByteArray)]) ?_ 0 _ rfl; (with_reducible repeat (first | refine blk_drewN ?_ _ | refine blk_drew ?_ | refine blk_alloc ?_ _)); exact BK389.out) hb); have n1_ := bs HB hb; clear BK389; clear HB; have BK389 := n0_; have HB := n1_; clear n0_ n1_; (try clear hb); (try clear hb2); (try clear hk); (try clear hi); have hcz18_0 : w17.cell? ⟨gb389, 0, none⟩ = some (.int .i64 t387) := (blk_cell BK389.out 0).trans rfl; have hcz18_1 : w17.cell? ⟨gb389, 1, none⟩ = some (.string t388) := (blk_cell BK389.out 1).trans rfl; have hfz18_0 := blk_frozen BK389.out 0; have hfz18_1 := blk_frozen BK389.out 1) | ((with_reducible refine gate_callee (f := 17) rfl ?_); refine goesL_ (some 43) rfl rfl Try.func17 (by kernel_rfl) rfl #[.agg #[.int .i64 t387, .string t388]] rfl (by (try simp only [List.map_toArray, List.map_cons, List.map_nil]); first | done | rfl | (simp only [List.length_drop, List.length_take]; rfl)) ?_; (with_reducible refine (impl_Known.calls k t387 t388 t397 _ A7.out).mono ?_); rintro e w19 ⟨rfl, hb⟩; refine ⟨_, rfl, ?_⟩; have n0_ := bb BK389 hb; have n1_ := bs HB hb; clear BK389; clear HB; have BK389 := n0_; have HB := n1_; clear n0_ n1_; (try clear hb); (try clear hb2); (try clear hk); (try clear hi); have hcz20_0 : w19.cell? ⟨gb389, 0, none⟩ = some (.int .i64 t387) := (blk_cell BK389.out 0).trans rfl; have hcz20_1 : w19.cell? ⟨gb389, 1, none⟩ = some (.string t388) := (blk_cell BK389.out 1).trans rfl; have hfz20_0 := blk_frozen BK389.out 0; have hfz20_1 := blk_frozen BK389.out 1) | ((with_reducible refine gate_callee (f := 24) rfl ?_); refine goesL_ (some 45) rfl rfl Try.func24 (by kernel_rfl) rfl #[.agg #[.int .i64 t387, .string t388]] rfl (by (try simp only [List.map_toArray, List.map_cons, List.map_nil]); first | done | rfl | (simp only [List.length_drop, List.length_take]; rfl)) ?_; (with_reducible refine (impl_TableCount.calls k t387 t388 t398 _ A8.out).mono ?_); rintro e w21 ⟨rfl, hb⟩; refine ⟨_, rfl, ?_⟩; have n0_ := bb BK389 hb; have n1_ := bs HB hb; clear BK389; clear HB; have BK389 := n0_; have HB := n1_; clear n0_ n1_; (try clear hb); (try clear hb2); (try clear hk); (try clear hi); have hcz22_0 : w21.cell? ⟨gb389, 0, none⟩ = some (.int .i64 t387) := (blk_cell BK389.out 0).trans rfl; have hcz22_1 : w21.cell? ⟨gb389, 1, none⟩ = some (.string t388) := (blk_cell BK389.out 1).trans rfl; have hfz22_0 := blk_frozen BK389.out 0; have hfz22_1 := blk_frozen BK389.out 1) | ((with_reducible refine gate_callee (f := 20) rfl ?_); refine goesL_ (some 51) rfl rfl Try.func20 (by kernel_rfl) rfl #[.agg #[.int .i64 t387, .string t388], .int .i64 0] rfl (by (try simp only [List.map_toArray, List.map_cons, List.map_nil]); first | done | rfl | (simp only [List.length_drop, List.length_take]; rfl)) ?_; (with_reducible refine (impl_Half.calls k t387 t388 0 t399 t400 false _ A10.out).mono ?_); rintro e w23 ⟨rfl, hb⟩; refine ⟨_, rfl, ?_⟩; have n0_ := bb BK389 hb; have n1_ := bs HB hb; clear BK389; clear HB; have BK389 := n0_; have HB := n1_; clear n0_ n1_; (try clear hb); (try clear hb2); (try clear hk); (try clear hi)) | ((with_reducible refine gate_dst (N := 6) rfl ?_); (try (refine gate_guard (by rfl) ?_; dsimp only)); refine box_event ?hg (N := 6) ?hd (cs := #[.int .i64 0, .string (⟨#[]⟩ : ByteArray)]) (t := 26) ?hr ?_; (case hd => rfl); (case hg => rfl); (case hr => first | (go_simp; done) | (go_simp; rfl)); intro gb402 hg w24 hbox hb; have n0_ := bb BK389 hb; have n1_ := bs HB hb; have n2_ := Aside0.mk (hbox); have n3_ := bz hg HB; have n4_ := bz hg HB; have n5_ := nl hg BK389; have n6_ := ng hg BK389; clear BK389; clear HB; have BK389 := n0_; have HB := n1_; have BK402 := n2_; have GW402 := n3_; have GE402 := n4_; have NB389_402 := n5_; have NB402_389 := n6_; clear n0_ n1_ n2_ n3_ n4_ n5_ n6_; clear hb hbox hg; have hnb25 := NB402_389.out; have hnc25 := NB389_402.out; have hcz26_0 : w24.cell? ⟨gb402, 0, none⟩ = some (.int .i64 0) := (blk_cell BK402.out 0).trans rfl; have hcz26_1 : w24.cell? ⟨gb402, 1, none⟩ = some (.string (⟨#[]⟩ : ByteArray)) := (blk_cell BK402.out 1).trans rfl; have hfz26_0 := blk_frozen BK402.out 0; have hfz26_1 := blk_frozen BK402.out 1; have hcz27_0 : w24.cell? ⟨gb389, 0, none⟩ = some (.int .i64 t387) := (blk_cell BK389.out 0).trans rfl; have hcz27_1 : w24.cell? ⟨gb389, 1, none⟩ = some (.string t388) := (blk_cell BK389.out 1).trans rfl; have hfz27_0 := blk_frozen BK389.out 0; have hfz27_1 := blk_frozen BK389.out 1) | (go_at_call 15; (try simp only [i64_w, i32_w]); (with_reducible refine (impl_Needs.calls k t387 t388 t403 _ A13.out).mono ?_); rintro e w28 ⟨v404, rfl, ho0, hb⟩; have n0_ := Aside0.mk (Kd.R_lower ho0 (below_size (by repeat (first | (with_reducible first | exact HB.out | apply below_alloc | apply pw_below_drewN | apply below_drew1 | refine below_set ?_ GE389.out | refine below_set ?_ GE402.out) | exact HB.out)))); have n1_ := Aside0.mk (blk_below (g := gb389) (o := .cells #[.int .i64 t387, .string t388] 26 (0, 0)) (by (with_reducible repeat (first | refine blk_drewN ?_ _ | refine blk_drew ?_ | refine blk_alloc ?_ _)); refine blk_far ?_ NB389_402.out _; (with_reducible repeat (first | refine blk_drewN ?_ _ | refine blk_drew ?_ | refine blk_alloc ?_ _)); refine blk_far ?_ NB389_402.out _; (with_reducible repeat (first | refine blk_drewN ?_ _ | refine blk_drew ?_ | refine blk_alloc ?_ _)); exact BK389.out) hb); have n2_ := Aside0.mk (blk_below (g := gb402) (o := .cells #[.int .i64 t399, .string t400] 26 (0, 0)) (by (with_reducible repeat (first | refine blk_drewN ?_ _ | refine blk_drew ?_ | refine blk_alloc ?_ _)); refine blk_put (cs := #[.int .i64 t399, .string (⟨#[]⟩ : ByteArray)]) ?_ 1 _ rfl; (with_reducible repeat (first | refine blk_drewN ?_ _ | refine blk_drew ?_ | refine blk_alloc ?_ _)); refine blk_put (cs := #[.int .i64 0, .string (⟨#[]⟩ : ByteArray)]) ?_ 0 _ rfl; (with_reducible repeat (first | refine blk_drewN ?_ _ | refine blk_drew ?_ | refine blk_alloc ?_ _)); exact BK402.out) hb); have n3_ := bs HB hb; clear BK389; clear BK402; clear HB; have HO405 := n0_; have BK389 := n1_; have BK402 := n2_; have HB := n3_; clear n0_ n1_ n2_ n3_; (try clear hb); (try clear hb2); (try clear hk); (try clear hi); (try clear ho0); obtain ⟨Ao29, co29, eo29⟩ := Kd.R_slice HO405.out; subst eo29))
      go_ret
      exact ⟨by first | rfl | (simp [errW_none, errW_some] <;> rfl) | (simp [*, errW_none, errW_some] <;> rfl), by repeat (first | (with_reducible first | exact HB.out | apply below_alloc | apply pw_below_drewN | apply below_drew1 | refine below_set ?_ GE389.out | refine below_set ?_ GE402.out) | exact HB.out)⟩
     ·rw [if_neg c12] at H
      have c12b0 : (t397 == t398) = false := beq_eq_false_iff_ne.mpr c12
      have c12b1 : (t397 != t398) = true := bne_iff_ne.mpr c12
      exact absurd ((Option.some.inj H).trans HT.out) (by decide)
   ·rw [if_neg c9] at H
    have c9b0 : (t387 == 0) = false := beq_eq_false_iff_ne.mpr c9
    have c9b1 : (t387 != 0) = true := bne_iff_ne.mpr c9
    replace H := Option.bind_eq_some_iff.mp H
    obtain ⟨⟨t406, t407, t408⟩, A300, H⟩ := H
    replace H : ((impl_Half.f k t387 t388 1).bind fun bt410 => (if t408 = true then (if bt410.2.2 = true then (if t406 = (wrap64 (t387 - 1)) then (if t407.size + bt410.2.1.size ≤ 9223372036854775807 then (if (t407 ++ bt410.2.1).toList = t388.toList then ((impl_TableCount.f k t406 t407).bind fun t414 => ((impl_TableCount.f k bt410.1 bt410.2.1).bind fun t415 => (laws_FnHalves.j0 k t397 ((wrap64 (t414 + t415)) != t398) t387 t388 t406 t407 bt410.1 bt410.2.1))) else (laws_FnHalves.j0 k t397 true t387 t388 t406 t407 bt410.1 bt410.2.1)) else (none)) else (laws_FnHalves.j0 k t397 true t387 t388 t406 t407 bt410.1 bt410.2.1)) else (laws_FnHalves.j0 k t397 true t387 t388 t406 t407 bt410.1 bt410.2.1)) else (laws_FnHalves.j0 k t397 true t387 t388 t406 t407 bt410.1 bt410.2.1))) = some r := H
    have A30 := Aside0.mk A300
    clear A300
    replace H := Option.bind_eq_some_iff.mp H
    obtain ⟨⟨t410, t411, t412⟩, A310, H⟩ := H
    replace H : (if t408 = true then (if t412 = true then (if t406 = (wrap64 (t387 - 1)) then (if t407.size + t411.size ≤ 9223372036854775807 then (if (t407 ++ t411).toList = t388.toList then ((impl_TableCount.f k t406 t407).bind fun t414 => ((impl_TableCount.f k t410 t411).bind fun t415 => (laws_FnHalves.j0 k t397 ((wrap64 (t414 + t415)) != t398) t387 t388 t406 t407 t410 t411))) else (laws_FnHalves.j0 k t397 true t387 t388 t406 t407 t410 t411)) else (none)) else (laws_FnHalves.j0 k t397 true t387 t388 t406 t407 t410 t411)) else (laws_FnHalves.j0 k t397 true t387 t388 t406 t407 t410 t411)) else (laws_FnHalves.j0 k t397 true t387 t388 t406 t407 t410 t411)) = some r := H
    have A31 := Aside0.mk A310
    clear A310
    have HC32 := Aside0.mk H
    clear H
    go_enter Try.func5, Try.ntmps5
    go_upto_region 13 with (first | ((with_reducible refine gate_callee (f := 11) rfl ?_); refine goesL_ (some 17) rfl rfl Try.func11 (by kernel_rfl) rfl #[.slice A0 l0.length c0] rfl (by (try simp only [List.map_toArray, List.map_cons, List.map_nil]); first | done | rfl | (simp only [List.length_drop, List.length_take]; rfl)) ?_; (with_reducible refine (laws_big.calls _ _ l0 false _ ?side1 ?side2 A2.out).mono ?_); (case side1 => repeat (first | exact HR0.out | (with_reducible refine Kd.C_alloc ?_ _) | (with_reducible refine Kd.C_drewN ?_ _) | (with_reducible refine Kd.C_drew ?_))); (case side2 => exact HC0.out); rintro e w' ⟨rfl, ⟨nd, rfl⟩⟩; refine ⟨_, rfl, ?_⟩) | ((with_reducible refine gate_callee (f := 22) rfl ?_); refine goesL_ (some 19) rfl rfl Try.func22 (by kernel_rfl) rfl #[.slice A0 l0.length c0] rfl (by (try simp only [List.map_toArray, List.map_cons, List.map_nil]); first | done | rfl | (simp only [List.length_drop, List.length_take]; rfl)) ?_; (with_reducible refine (spec_DrawKnown.calls k _ _ l0 t387 t388 _ ?side1 ?side2 A4.out).mono ?_); (case side1 => repeat (first | exact HR0.out | (with_reducible refine Kd.C_alloc ?_ _) | (with_reducible refine Kd.C_drewN ?_ _) | (with_reducible refine Kd.C_drew ?_))); (case side2 => exact HC0.out); rintro e w33 ⟨rfl, hb⟩; refine ⟨_, rfl, ?_⟩; have n0_ := bs HB hb; clear HB; have HB := n0_; clear n0_; (try clear hb); (try clear hb2); (try clear hk); (try clear hi)) | ((with_reducible refine gate_dst (N := 3) rfl ?_); (try (refine gate_guard (by rfl) ?_; dsimp only)); refine box_event ?hg (N := 3) ?hd (cs := #[.int .i64 0, .string (⟨#[]⟩ : ByteArray)]) (t := 26) ?hr ?_; (case hd => rfl); (case hg => rfl); (case hr => first | (go_simp; done) | (go_simp; rfl)); intro gb389 hg w34 hbox hb; have n0_ := bs HB hb; have n1_ := Aside0.mk (hbox); have n2_ := bz hg HB; have n3_ := bz hg HB; clear HB; have HB := n0_; have BK389 := n1_; have GW389 := n2_; have GE389 := n3_; clear n0_ n1_ n2_ n3_; clear hb hbox hg; have hcz35_0 : w34.cell? ⟨gb389, 0, none⟩ = some (.int .i64 0) := (blk_cell BK389.out 0).trans rfl; have hcz35_1 : w34.cell? ⟨gb389, 1, none⟩ = some (.string (⟨#[]⟩ : ByteArray)) := (blk_cell BK389.out 1).trans rfl; have hfz35_0 := blk_frozen BK389.out 0; have hfz35_1 := blk_frozen BK389.out 1) | ((with_reducible refine gate_callee (f := 23) rfl ?_); refine goesL_ (some 21) rfl rfl Try.func23 (by kernel_rfl) rfl #[.agg #[.int .i64 t387, .string t388]] rfl (by (try simp only [List.map_toArray, List.map_cons, List.map_nil]); first | done | rfl | (simp only [List.length_drop, List.length_take]; rfl)) ?_; (with_reducible refine (spec_TableOk.calls k t387 t388 true _ A5.out).mono ?_); rintro e w36 ⟨rfl, hb⟩; refine ⟨_, rfl, ?_⟩; have n0_ := Aside0.mk (blk_below (g := gb389) (o := .cells #[.int .i64 t387, .string t388] 26 (0, 0)) (by (with_reducible repeat (first | refine blk_drewN ?_ _ | refine blk_drew ?_ | refine blk_alloc ?_ _)); refine blk_put (cs := #[.int .i64 t387, .string (⟨#[]⟩ : ByteArray)]) ?_ 1 _ rfl; (with_reducible repeat (first | refine blk_drewN ?_ _ | refine blk_drew ?_ | refine blk_alloc ?_ _)); refine blk_put (cs := #[.int .i64 0, .string (⟨#[]⟩ : ByteArray)]) ?_ 0 _ rfl; (with_reducible repeat (first | refine blk_drewN ?_ _ | refine blk_drew ?_ | refine blk_alloc ?_ _)); exact BK389.out) hb); have n1_ := bs HB hb; clear BK389; clear HB; have BK389 := n0_; have HB := n1_; clear n0_ n1_; (try clear hb); (try clear hb2); (try clear hk); (try clear hi); have hcz37_0 : w36.cell? ⟨gb389, 0, none⟩ = some (.int .i64 t387) := (blk_cell BK389.out 0).trans rfl; have hcz37_1 : w36.cell? ⟨gb389, 1, none⟩ = some (.string t388) := (blk_cell BK389.out 1).trans rfl; have hfz37_0 := blk_frozen BK389.out 0; have hfz37_1 := blk_frozen BK389.out 1) | ((with_reducible refine gate_callee (f := 17) rfl ?_); refine goesL_ (some 43) rfl rfl Try.func17 (by kernel_rfl) rfl #[.agg #[.int .i64 t387, .string t388]] rfl (by (try simp only [List.map_toArray, List.map_cons, List.map_nil]); first | done | rfl | (simp only [List.length_drop, List.length_take]; rfl)) ?_; (with_reducible refine (impl_Known.calls k t387 t388 t397 _ A7.out).mono ?_); rintro e w38 ⟨rfl, hb⟩; refine ⟨_, rfl, ?_⟩; have n0_ := bb BK389 hb; have n1_ := bs HB hb; clear BK389; clear HB; have BK389 := n0_; have HB := n1_; clear n0_ n1_; (try clear hb); (try clear hb2); (try clear hk); (try clear hi); have hcz39_0 : w38.cell? ⟨gb389, 0, none⟩ = some (.int .i64 t387) := (blk_cell BK389.out 0).trans rfl; have hcz39_1 : w38.cell? ⟨gb389, 1, none⟩ = some (.string t388) := (blk_cell BK389.out 1).trans rfl; have hfz39_0 := blk_frozen BK389.out 0; have hfz39_1 := blk_frozen BK389.out 1) | ((with_reducible refine gate_callee (f := 24) rfl ?_); refine goesL_ (some 45) rfl rfl Try.func24 (by kernel_rfl) rfl #[.agg #[.int .i64 t387, .string t388]] rfl (by (try simp only [List.map_toArray, List.map_cons, List.map_nil]); first | done | rfl | (simp only [List.length_drop, List.length_take]; rfl)) ?_; (with_reducible refine (impl_TableCount.calls k t387 t388 t398 _ A8.out).mono ?_); rintro e w40 ⟨rfl, hb⟩; refine ⟨_, rfl, ?_⟩; have n0_ := bb BK389 hb; have n1_ := bs HB hb; clear BK389; clear HB; have BK389 := n0_; have HB := n1_; clear n0_ n1_; (try clear hb); (try clear hb2); (try clear hk); (try clear hi); have hcz41_0 : w40.cell? ⟨gb389, 0, none⟩ = some (.int .i64 t387) := (blk_cell BK389.out 0).trans rfl; have hcz41_1 : w40.cell? ⟨gb389, 1, none⟩ = some (.string t388) := (blk_cell BK389.out 1).trans rfl; have hfz41_0 := blk_frozen BK389.out 0; have hfz41_1 := blk_frozen BK389.out 1) | ((with_reducible refine gate_callee (f := 20) rfl ?_); refine goesL_ (some 69) rfl rfl Try.func20 (by kernel_rfl) rfl #[.agg #[.int .i64 t387, .string t388], .int .i64 0] rfl (by (try simp only [List.map_toArray, List.map_cons, List.map_nil]); first | done | rfl | (simp only [List.length_drop, List.length_take]; rfl)) ?_; (with_reducible refine (impl_Half.calls k t387 t388 0 t406 t407 t408 _ A30.out).mono ?_); rintro e w42 ⟨rfl, hb⟩; refine ⟨_, rfl, ?_⟩; have n0_ := bb BK389 hb; have n1_ := bs HB hb; clear BK389; clear HB; have BK389 := n0_; have HB := n1_; clear n0_ n1_; (try clear hb); (try clear hb2); (try clear hk); (try clear hi)) | ((with_reducible refine gate_dst (N := 8) rfl ?_); (try (refine gate_guard (by rfl) ?_; dsimp only)); refine box_event ?hg (N := 8) ?hd (cs := #[.int .i64 0, .string (⟨#[]⟩ : ByteArray)]) (t := 26) ?hr ?_; (case hd => rfl); (case hg => rfl); (case hr => first | (go_simp; done) | (go_simp; rfl)); intro gb409 hg w43 hbox hb; have n0_ := bb BK389 hb; have n1_ := bs HB hb; have n2_ := Aside0.mk (hbox); have n3_ := bz hg HB; have n4_ := bz hg HB; have n5_ := nl hg BK389; have n6_ := ng hg BK389; clear BK389; clear HB; have BK389 := n0_; have HB := n1_; have BK409 := n2_; have GW409 := n3_; have GE409 := n4_; have NB389_409 := n5_; have NB409_389 := n6_; clear n0_ n1_ n2_ n3_ n4_ n5_ n6_; clear hb hbox hg; have hnb44 := NB409_389.out; have hnc44 := NB389_409.out; have hcz45_0 : w43.cell? ⟨gb409, 0, none⟩ = some (.int .i64 0) := (blk_cell BK409.out 0).trans rfl; have hcz45_1 : w43.cell? ⟨gb409, 1, none⟩ = some (.string (⟨#[]⟩ : ByteArray)) := (blk_cell BK409.out 1).trans rfl; have hfz45_0 := blk_frozen BK409.out 0; have hfz45_1 := blk_frozen BK409.out 1; have hcz46_0 : w43.cell? ⟨gb389, 0, none⟩ = some (.int .i64 t387) := (blk_cell BK389.out 0).trans rfl; have hcz46_1 : w43.cell? ⟨gb389, 1, none⟩ = some (.string t388) := (blk_cell BK389.out 1).trans rfl; have hfz46_0 := blk_frozen BK389.out 0; have hfz46_1 := blk_frozen BK389.out 1) | ((with_reducible refine gate_callee (f := 20) rfl ?_); refine goesL_ (some 74) rfl rfl Try.func20 (by kernel_rfl) rfl #[.agg #[.int .i64 t387, .string t388], .int .i64 1] rfl (by (try simp only [List.map_toArray, List.map_cons, List.map_nil]); first | done | rfl | (simp only [List.length_drop, List.length_take]; rfl)) ?_; (with_reducible refine (impl_Half.calls k t387 t388 1 t410 t411 t412 _ A31.out).mono ?_); rintro e w47 ⟨rfl, hb⟩; refine ⟨_, rfl, ?_⟩; have n0_ := Aside0.mk (blk_below (g := gb389) (o := .cells #[.int .i64 t387, .string t388] 26 (0, 0)) (by (with_reducible repeat (first | refine blk_drewN ?_ _ | refine blk_drew ?_ | refine blk_alloc ?_ _)); refine blk_far ?_ NB389_409.out _; (with_reducible repeat (first | refine blk_drewN ?_ _ | refine blk_drew ?_ | refine blk_alloc ?_ _)); refine blk_far ?_ NB389_409.out _; (with_reducible repeat (first | refine blk_drewN ?_ _ | refine blk_drew ?_ | refine blk_alloc ?_ _)); exact BK389.out) hb); have n1_ := Aside0.mk (blk_below (g := gb409) (o := .cells #[.int .i64 t406, .string t407] 26 (0, 0)) (by (with_reducible repeat (first | refine blk_drewN ?_ _ | refine blk_drew ?_ | refine blk_alloc ?_ _)); refine blk_put (cs := #[.int .i64 t406, .string (⟨#[]⟩ : ByteArray)]) ?_ 1 _ rfl; (with_reducible repeat (first | refine blk_drewN ?_ _ | refine blk_drew ?_ | refine blk_alloc ?_ _)); refine blk_put (cs := #[.int .i64 0, .string (⟨#[]⟩ : ByteArray)]) ?_ 0 _ rfl; (with_reducible repeat (first | refine blk_drewN ?_ _ | refine blk_drew ?_ | refine blk_alloc ?_ _)); exact BK409.out) hb); have n2_ := bs HB hb; clear BK389; clear BK409; clear HB; have BK389 := n0_; have BK409 := n1_; have HB := n2_; clear n0_ n1_ n2_; (try clear hb); (try clear hb2); (try clear hk); (try clear hi)) | ((with_reducible refine gate_dst (N := 10) rfl ?_); (try (refine gate_guard (by rfl) ?_; dsimp only)); refine box_event ?hg (N := 10) ?hd (cs := #[.int .i64 0, .string (⟨#[]⟩ : ByteArray)]) (t := 26) ?hr ?_; (case hd => rfl); (case hg => rfl); (case hr => first | (go_simp; done) | (go_simp; rfl)); intro gb413 hg w48 hbox hb; have n0_ := bb BK389 hb; have n1_ := bb BK409 hb; have n2_ := bs HB hb; have n3_ := Aside0.mk (hbox); have n4_ := bz hg HB; have n5_ := bz hg HB; have n6_ := nl hg BK389; have n7_ := ng hg BK389; have n8_ := nl hg BK409; have n9_ := ng hg BK409; clear BK389; clear BK409; clear HB; have BK389 := n0_; have BK409 := n1_; have HB := n2_; have BK413 := n3_; have GW413 := n4_; have GE413 := n5_; have NB389_413 := n6_; have NB413_389 := n7_; have NB409_413 := n8_; have NB413_409 := n9_; clear n0_ n1_ n2_ n3_ n4_ n5_ n6_ n7_ n8_ n9_; clear hb hbox hg; have hnb49 := NB413_389.out; have hnc49 := NB389_413.out; have hnb50 := NB413_409.out; have hnc50 := NB409_413.out; have hcz51_0 : w48.cell? ⟨gb413, 0, none⟩ = some (.int .i64 0) := (blk_cell BK413.out 0).trans rfl; have hcz51_1 : w48.cell? ⟨gb413, 1, none⟩ = some (.string (⟨#[]⟩ : ByteArray)) := (blk_cell BK413.out 1).trans rfl; have hfz51_0 := blk_frozen BK413.out 0; have hfz51_1 := blk_frozen BK413.out 1))
    (try simp only [Act.put, List.setIfInBounds_toArray, List.set_cons_zero, List.set_cons_succ])
    go_cut [109] (fun v109 wc => ∃ (kq : Nat) (x109_31 : Bool), v109 = .bool x109_31 ∧ Aside0 (laws_FnHalves.j0 kq t397 x109_31 t387 t388 t406 t407 t410 t411 = some r) ∧ Aside0 (kq ≤ k) ∧ Aside0 (wc.heap[gb389]? = some (.cells #[.int .i64 t387, .string t388] 26 (0, 0))) ∧ Aside0 (wc.heap[gb409]? = some (.cells #[.int .i64 t406, .string t407] 26 (0, 0))) ∧ Aside0 (wc.heap[gb413]? = some (.cells #[.int .i64 t410, .string t411] 26 (0, 0))) ∧ Aside0 (Below w.heap.size w wc))
    case first =>
     have H := HC32.out
     clear HC32
     by_cases c52 : t408 = true
     ·subst c52
      have H1 : (if t412 = true then (if t406 = (wrap64 (t387 - 1)) then (if t407.size + t411.size ≤ 9223372036854775807 then (if (t407 ++ t411).toList = t388.toList then ((impl_TableCount.f k t406 t407).bind fun t414 => ((impl_TableCount.f k t410 t411).bind fun t415 => (laws_FnHalves.j0 k t397 ((wrap64 (t414 + t415)) != t398) t387 t388 t406 t407 t410 t411))) else (laws_FnHalves.j0 k t397 true t387 t388 t406 t407 t410 t411)) else (none)) else (laws_FnHalves.j0 k t397 true t387 t388 t406 t407 t410 t411)) else (laws_FnHalves.j0 k t397 true t387 t388 t406 t407 t410 t411)) = some r := by rw [if_pos rfl] at H; exact H
      clear H
      have H := H1
      clear H1
      by_cases c53 : t412 = true
      ·subst c53
       have H1 : (if t406 = (wrap64 (t387 - 1)) then (if t407.size + t411.size ≤ 9223372036854775807 then (if (t407 ++ t411).toList = t388.toList then ((impl_TableCount.f k t406 t407).bind fun t414 => ((impl_TableCount.f k t410 t411).bind fun t415 => (laws_FnHalves.j0 k t397 ((wrap64 (t414 + t415)) != t398) t387 t388 t406 t407 t410 t411))) else (laws_FnHalves.j0 k t397 true t387 t388 t406 t407 t410 t411)) else (none)) else (laws_FnHalves.j0 k t397 true t387 t388 t406 t407 t410 t411)) = some r := by rw [if_pos rfl] at H; exact H
       clear H
       have H := H1
       clear H1
       by_cases c54 : t406 = (wrap64 (t387 - 1))
       ·rw [if_pos c54] at H
        have c54b0 : (t406 == (wrap64 (t387 - 1))) = true := beq_iff_eq.mpr c54
        have c54b1 : (t406 != (wrap64 (t387 - 1))) = false := bne_eq_false_iff_eq.mpr c54
        clear c54
        (first | rw [c54b0] | (simp only [i64_w, i32_w]; rw [c54b0]) | skip)
        by_cases c55 : t407.size + t411.size ≤ 9223372036854775807
        ·rw [if_pos c55] at H
         have c55b0 := eq_true c55
         have c55b1 : decide (t407.size + t411.size ≤ 9223372036854775807) = true := decide_eq_true c55
         try have c55b2 : (9223372036854775807 < t407.size + t411.size) = False := eq_false (Nat.not_lt.2 c55)
         by_cases c56 : (t407 ++ t411).toList = t388.toList
         ·rw [if_pos c56] at H
          have c56b0 : ((t407 ++ t411).toList == t388.toList) = true := beq_iff_eq.mpr c56
          have c56b1 : ((t407 ++ t411).toList != t388.toList) = false := bne_eq_false_iff_eq.mpr c56
          clear c56
          replace H := Option.bind_eq_some_iff.mp H
          obtain ⟨t414, A570, H⟩ := H
          replace H : ((impl_TableCount.f k t410 t411).bind fun t415 => (laws_FnHalves.j0 k t397 ((wrap64 (t414 + t415)) != t398) t387 t388 t406 t407 t410 t411)) = some r := H
          have A57 := Aside0.mk A570
          clear A570
          replace H := Option.bind_eq_some_iff.mp H
          obtain ⟨t415, A580, H⟩ := H
          replace H : (laws_FnHalves.j0 k t397 ((wrap64 (t414 + t415)) != t398) t387 t388 t406 t407 t410 t411) = some r := H
          have A58 := Aside0.mk A580
          clear A580
          have H' := Aside0.mk H
          clear H
          try go_wp2
          have n0_ : Aside0 (((w48.setCell ⟨gb413, 0, none⟩ (.int .i64 t410)).setCell ⟨gb413, 1, none⟩ (.string t411)).heap[gb389]? = some (.cells #[.int .i64 t387, .string t388] 26 (0, 0))) := ⟨by (with_reducible repeat (first | refine blk_drewN ?_ _ | refine blk_drew ?_ | refine blk_alloc ?_ _)); refine blk_far ?_ NB389_413.out _; (with_reducible repeat (first | refine blk_drewN ?_ _ | refine blk_drew ?_ | refine blk_alloc ?_ _)); refine blk_far ?_ NB389_413.out _; (with_reducible repeat (first | refine blk_drewN ?_ _ | refine blk_drew ?_ | refine blk_alloc ?_ _)); exact BK389.out⟩
          have n1_ : Aside0 (((w48.setCell ⟨gb413, 0, none⟩ (.int .i64 t410)).setCell ⟨gb413, 1, none⟩ (.string t411)).heap[gb409]? = some (.cells #[.int .i64 t406, .string t407] 26 (0, 0))) := ⟨by (with_reducible repeat (first | refine blk_drewN ?_ _ | refine blk_drew ?_ | refine blk_alloc ?_ _)); refine blk_far ?_ NB409_413.out _; (with_reducible repeat (first | refine blk_drewN ?_ _ | refine blk_drew ?_ | refine blk_alloc ?_ _)); refine blk_far ?_ NB409_413.out _; (with_reducible repeat (first | refine blk_drewN ?_ _ | refine blk_drew ?_ | refine blk_alloc ?_ _)); exact BK409.out⟩
          have n2_ : Aside0 (((w48.setCell ⟨gb413, 0, none⟩ (.int .i64 t410)).setCell ⟨gb413, 1, none⟩ (.string t411)).heap[gb413]? = some (.cells #[.int .i64 t410, .string t411] 26 (0, 0))) := ⟨by (with_reducible repeat (first | refine blk_drewN ?_ _ | refine blk_drew ?_ | refine blk_alloc ?_ _)); refine blk_put (cs := #[.int .i64 t410, .string (⟨#[]⟩ : ByteArray)]) ?_ 1 _ rfl; (with_reducible repeat (first | refine blk_drewN ?_ _ | refine blk_drew ?_ | refine blk_alloc ?_ _)); refine blk_put (cs := #[.int .i64 0, .string (⟨#[]⟩ : ByteArray)]) ?_ 0 _ rfl; (with_reducible repeat (first | refine blk_drewN ?_ _ | refine blk_drew ?_ | refine blk_alloc ?_ _)); exact BK413.out⟩
          have n3_ : Aside0 (Below w.heap.size w ((w48.setCell ⟨gb413, 0, none⟩ (.int .i64 t410)).setCell ⟨gb413, 1, none⟩ (.string t411))) := ⟨by repeat (first | (with_reducible first | exact HB.out | apply below_alloc | apply pw_below_drewN | apply below_drew1 | refine below_set ?_ GE389.out | refine below_set ?_ GE409.out | refine below_set ?_ GE413.out) | exact HB.out)⟩
          (try clear BK389)
          (try clear BK409)
          (try clear BK413)
          (try clear HB)
          generalize ((w48.setCell ⟨gb413, 0, none⟩ (.int .i64 t410)).setCell ⟨gb413, 1, none⟩ (.string t411)) = w59 at n0_ n1_ n2_ n3_ ⊢
          have BK389 := n0_
          have BK409 := n1_
          have BK413 := n2_
          have HB := n3_
          clear n0_ n1_ n2_ n3_
          have n0_ := Aside0.mk (blk_drew BK389.out)
          have n1_ := Aside0.mk (blk_drew BK409.out)
          have n2_ := Aside0.mk (blk_drew BK413.out)
          have n3_ := Aside0.mk (below_drew1 HB.out)
          clear BK389
          clear BK409
          clear BK413
          clear HB
          have BK389 := n0_
          have BK409 := n1_
          have BK413 := n2_
          have HB := n3_
          clear n0_ n1_ n2_ n3_
          refine start_ (n := 33) (S := fun w' => w'.cell? ⟨gb409, 0, none⟩ = some (.int .i64 t406) ∧ w'.cell? ⟨gb409, 1, none⟩ = some (.string t407) ∧ w'.cell? ⟨gb389, 0, none⟩ = some (.int .i64 t387) ∧ w'.cell? ⟨gb389, 1, none⟩ = some (.string t388) ∧ w'.cell? ⟨gb413, 0, none⟩ = some (.int .i64 t410) ∧ w'.cell? ⟨gb413, 1, none⟩ = some (.string t411)) (ds := []) #[false, false, false, false, false, false, false, false, false, false, false, false, false, false, false, false, false, false, false, false, false, false, false, false, false, false, false, false, false, false, false, false, false] (by kernel_rfl) rfl rfl ⟨(blk_cell BK409.out 0).trans rfl, (blk_cell BK409.out 1).trans rfl, (blk_cell BK389.out 0).trans rfl, (blk_cell BK389.out 1).trans rfl, (blk_cell BK413.out 0).trans rfl, (blk_cell BK413.out 1).trans rfl⟩ (fun hHeld => ?_); refine with_tabW laws_FnHalves.tab13 laws_FnHalves.bits13 (fun HT_ HW_ => ?_)
          generalize w59.drew = w60 at BK389 BK409 BK413 HB hHeld ⊢
          refine pure_ (i := 0) (N := some 77) (v := ?_) (a' := ?_) #[true, false, false, false, false, false, false, false, false, false, false, false, false, false, false, false, false, false, false, false, false, false, false, false, false, false, false, false, false, false, false, false, false] rfl rfl (any_of HT_.out (by kernel_rfl)) (fun _ _ _ h => h) (Or.inl ⟨by rfl, ?_⟩) ?_ ?_
          rotate_left
          ·intro w'
           go_simp
           with_reducible rfl
          rotate_left
          ·simp only [Act.put, List.setIfInBounds_toArray, List.set_cons_zero, List.set_cons_succ, i64_w, i32_w]
           rfl
          refine pure_ (i := 1) (N := some 78) (v := ?_) (a' := ?_) #[true, true, false, false, false, false, false, false, false, false, false, false, false, false, false, false, false, false, false, false, false, false, false, false, false, false, false, false, false, false, false, false, false] rfl rfl (any_of HT_.out (by kernel_rfl)) (fun _ _ _ h => h) (Or.inl ⟨by rfl, ?_⟩) ?_ ?_
          rotate_left
          ·intro w'
           go_simp
           with_reducible rfl
          rotate_left
          ·simp only [Act.put, List.setIfInBounds_toArray, List.set_cons_zero, List.set_cons_succ, i64_w, i32_w]
           rfl
          refine pure_ (i := 2) (N := some 79) (v := ?_) (a' := ?_) #[true, true, true, false, false, false, false, false, false, false, false, false, false, false, false, false, false, false, false, false, false, false, false, false, false, false, false, false, false, false, false, false, false] rfl rfl (any_of HT_.out (by kernel_rfl)) (fun _ _ _ h => h) (Or.inl ⟨by rfl, ?_⟩) ?_ ?_
          rotate_left
          ·intro w'
           go_simp
           with_reducible rfl
          rotate_left
          ·simp only [Act.put, List.setIfInBounds_toArray, List.set_cons_zero, List.set_cons_succ, i64_w, i32_w]
           rfl
          refine pure_ (i := 3) (N := some 80) (v := ?_) (a' := ?_) #[true, true, true, true, false, false, false, false, false, false, false, false, false, false, false, false, false, false, false, false, false, false, false, false, false, false, false, false, false, false, false, false, false] rfl rfl (any_of HT_.out (by kernel_rfl)) (fun _ _ _ h => h) (Or.inl ⟨by rfl, ?_⟩) ?_ ?_
          rotate_left
          ·intro w'
           go_simp
           with_reducible rfl
          rotate_left
          ·simp only [Act.put, List.setIfInBounds_toArray, List.set_cons_zero, List.set_cons_succ, i64_w, i32_w]
           rfl
          refine pure_ (i := 4) (N := some 81) (v := ?_) (a' := ?_) #[true, true, true, true, true, false, false, false, false, false, false, false, false, false, false, false, false, false, false, false, false, false, false, false, false, false, false, false, false, false, false, false, false] rfl rfl (any_of HT_.out (by kernel_rfl)) (fun _ _ _ h => h) (Or.inl ⟨by rfl, ?_⟩) ?_ ?_
          rotate_left
          ·intro w'
           go_simp
           with_reducible rfl
          rotate_left
          ·simp only [Act.put, List.setIfInBounds_toArray, List.set_cons_zero, List.set_cons_succ, i64_w, i32_w]
           rfl
          refine pure_ (i := 5) (N := some 82) (v := ?_) (a' := ?_) #[true, true, true, true, true, true, false, false, false, false, false, false, false, false, false, false, false, false, false, false, false, false, false, false, false, false, false, false, false, false, false, false, false] rfl rfl (any_of HT_.out (by kernel_rfl)) (fun _ _ _ h => h) (Or.inl ⟨by rfl, ?_⟩) ?_ ?_
          rotate_left
          ·intro w'
           go_simp
           with_reducible rfl
          rotate_left
          ·simp only [Act.put, List.setIfInBounds_toArray, List.set_cons_zero, List.set_cons_succ, i64_w, i32_w]
           rfl
          refine pure_ (i := 6) (N := some 83) (v := ?_) (a' := ?_) #[true, true, true, true, true, true, true, false, false, false, false, false, false, false, false, false, false, false, false, false, false, false, false, false, false, false, false, false, false, false, false, false, false] rfl rfl (any_of HT_.out (by kernel_rfl)) (fun _ _ _ h => h) (Or.inl ⟨by rfl, ?_⟩) ?_ ?_
          rotate_left
          ·intro w'
           go_simp
           with_reducible rfl
          rotate_left
          ·simp only [Act.put, List.setIfInBounds_toArray, List.set_cons_zero, List.set_cons_succ, i64_w, i32_w]
           rfl
          refine pure_ (i := 7) (N := some 84) (v := ?_) (a' := ?_) #[true, true, true, true, true, true, true, true, false, false, false, false, false, false, false, false, false, false, false, false, false, false, false, false, false, false, false, false, false, false, false, false, false] rfl rfl (any_of HT_.out (by kernel_rfl)) (fun _ _ _ h => h) (Or.inl ⟨by rfl, ?_⟩) ?_ ?_
          rotate_left
          ·intro w'
           go_simp
           with_reducible rfl
          rotate_left
          ·simp only [Act.put, List.setIfInBounds_toArray, List.set_cons_zero, List.set_cons_succ, i64_w, i32_w]
           rfl
          refine pure_ (i := 9) (N := some 86) (v := ?_) (a' := ?_) #[true, true, true, true, true, true, true, true, false, true, false, false, false, false, false, false, false, false, false, false, false, false, false, false, false, false, false, false, false, false, false, false, false] rfl rfl (any_of HT_.out (by kernel_rfl)) (fun _ _ _ h => h) (Or.inl ⟨by rfl, ?_⟩) ?_ ?_
          rotate_left
          ·intro w'
           go_simp
           with_reducible rfl
          rotate_left
          ·simp only [Act.put, List.setIfInBounds_toArray, List.set_cons_zero, List.set_cons_succ, i64_w, i32_w]
           rfl
          refine take_ (i := 8) (N := some 85) (v := ?_) (a' := ?_) #[true, true, true, true, true, true, true, true, true, true, false, false, false, false, false, false, false, false, false, false, false, false, false, false, false, false, false, false, false, false, false, false, false] rfl rfl (take_ofW HT_.out HW_.out (by kernel_rfl)) (fun _ _ _ h => h) (Or.inl ⟨by rfl, ?_⟩) hHeld ?_ ?_
          rotate_left
          ·rintro w' ⟨s0, s1, s2, s3, s4, s5⟩
           go_simp
           with_reducible rfl
          rotate_left
          ·simp only [Act.put, List.setIfInBounds_toArray, List.set_cons_zero, List.set_cons_succ, i64_w, i32_w]
           rfl
          refine take_ (i := 10) (N := some 87) (v := ?_) (a' := ?_) #[true, true, true, true, true, true, true, true, true, true, true, false, false, false, false, false, false, false, false, false, false, false, false, false, false, false, false, false, false, false, false, false, false] rfl rfl (take_ofW HT_.out HW_.out (by kernel_rfl)) (fun _ _ _ h => h) (Or.inl ⟨by rfl, ?_⟩) hHeld ?_ ?_
          rotate_left
          ·rintro w' ⟨s0, s1, s2, s3, s4, s5⟩
           go_simp
           with_reducible rfl
          rotate_left
          ·simp only [Act.put, List.setIfInBounds_toArray, List.set_cons_zero, List.set_cons_succ, i64_w, i32_w]
           rfl
          refine pure_ (i := 11) (N := some 88) (v := ?_) (a' := ?_) #[true, true, true, true, true, true, true, true, true, true, true, true, false, false, false, false, false, false, false, false, false, false, false, false, false, false, false, false, false, false, false, false, false] rfl rfl (any_of HT_.out (by kernel_rfl)) (fun _ _ _ h => h) (Or.inl ⟨by rfl, ?_⟩) ?_ ?_
          rotate_left
          ·intro w'
           go_simp
           with_reducible rfl
          rotate_left
          ·simp only [Act.put, List.setIfInBounds_toArray, List.set_cons_zero, List.set_cons_succ, i64_w, i32_w]
           rfl
          refine pure_ (i := 12) (N := some 89) (v := ?_) (a' := ?_) #[true, true, true, true, true, true, true, true, true, true, true, true, true, false, false, false, false, false, false, false, false, false, false, false, false, false, false, false, false, false, false, false, false] rfl rfl (any_of HT_.out (by kernel_rfl)) (fun _ _ _ h => h) (Or.inl ⟨by rfl, ?_⟩) ?_ ?_
          rotate_left
          ·intro w'
           go_simp
           with_reducible rfl
          rotate_left
          ·simp only [Act.put, List.setIfInBounds_toArray, List.set_cons_zero, List.set_cons_succ, i64_w, i32_w]
           rfl
          refine pure_ (i := 13) (N := some 90) (v := ?_) (a' := ?_) #[true, true, true, true, true, true, true, true, true, true, true, true, true, true, false, false, false, false, false, false, false, false, false, false, false, false, false, false, false, false, false, false, false] rfl rfl (any_of HT_.out (by kernel_rfl)) (fun _ _ _ h => h) (Or.inl ⟨by rfl, ?_⟩) ?_ ?_
          rotate_left
          ·intro w'
           go_simp
           with_reducible rfl
          rotate_left
          ·simp only [Act.put, List.setIfInBounds_toArray, List.set_cons_zero, List.set_cons_succ, i64_w, i32_w]
           rfl
          refine pure_ (i := 14) (N := some 91) (v := ?_) (a' := ?_) #[true, true, true, true, true, true, true, true, true, true, true, true, true, true, true, false, false, false, false, false, false, false, false, false, false, false, false, false, false, false, false, false, false] rfl rfl (any_of HT_.out (by kernel_rfl)) (fun _ _ _ h => h) (Or.inl ⟨by rfl, ?_⟩) ?_ ?_
          rotate_left
          ·intro w'
           go_simp
           with_reducible rfl
          rotate_left
          ·simp only [Act.put, List.setIfInBounds_toArray, List.set_cons_zero, List.set_cons_succ, i64_w, i32_w]
           rfl
          refine pure_ (i := 15) (N := some 92) (v := ?_) (a' := ?_) #[true, true, true, true, true, true, true, true, true, true, true, true, true, true, true, true, false, false, false, false, false, false, false, false, false, false, false, false, false, false, false, false, false] rfl rfl (any_of HT_.out (by kernel_rfl)) (fun _ _ _ h => h) (Or.inl ⟨by rfl, ?_⟩) ?_ ?_
          rotate_left
          ·intro w'
           go_simp
           with_reducible rfl
          rotate_left
          ·simp only [Act.put, List.setIfInBounds_toArray, List.set_cons_zero, List.set_cons_succ, i64_w, i32_w]
           rfl
          refine pure_ (i := 17) (N := some 94) (v := ?_) (a' := ?_) #[true, true, true, true, true, true, true, true, true, true, true, true, true, true, true, true, false, true, false, false, false, false, false, false, false, false, false, false, false, false, false, false, false] rfl rfl (any_of HT_.out (by kernel_rfl)) (fun _ _ _ h => h) (Or.inl ⟨by rfl, ?_⟩) ?_ ?_
          rotate_left
          ·intro w'
           go_simp
           with_reducible rfl
          rotate_left
          ·simp only [Act.put, List.setIfInBounds_toArray, List.set_cons_zero, List.set_cons_succ, i64_w, i32_w]
           rfl
          refine pure_ (i := 20) (N := some 97) (v := ?_) (a' := ?_) #[true, true, true, true, true, true, true, true, true, true, true, true, true, true, true, true, false, true, false, false, true, false, false, false, false, false, false, false, false, false, false, false, false] rfl rfl (any_of HT_.out (by kernel_rfl)) (fun _ _ _ h => h) (Or.inl ⟨by rfl, ?_⟩) ?_ ?_
          rotate_left
          ·intro w'
           go_simp
           with_reducible rfl
          rotate_left
          ·simp only [Act.put, List.setIfInBounds_toArray, List.set_cons_zero, List.set_cons_succ, i64_w, i32_w]
           rfl
          refine take_ (i := 16) (N := some 93) (v := ?_) (a' := ?_) #[true, true, true, true, true, true, true, true, true, true, true, true, true, true, true, true, true, true, false, false, true, false, false, false, false, false, false, false, false, false, false, false, false] rfl rfl (take_ofW HT_.out HW_.out (by kernel_rfl)) (fun _ _ _ h => h) (Or.inl ⟨by rfl, ?_⟩) hHeld ?_ ?_
          rotate_left
          ·rintro w' ⟨s0, s1, s2, s3, s4, s5⟩
           go_simp
           with_reducible rfl
          rotate_left
          ·simp only [Act.put, List.setIfInBounds_toArray, List.set_cons_zero, List.set_cons_succ, i64_w, i32_w]
           rfl
          refine take_ (i := 18) (N := some 95) (v := ?_) (a' := ?_) #[true, true, true, true, true, true, true, true, true, true, true, true, true, true, true, true, true, true, true, false, true, false, false, false, false, false, false, false, false, false, false, false, false] rfl rfl (take_ofW HT_.out HW_.out (by kernel_rfl)) (fun _ _ _ h => h) (Or.inl ⟨by rfl, ?_⟩) hHeld ?_ ?_
          rotate_left
          ·rintro w' ⟨s0, s1, s2, s3, s4, s5⟩
           go_simp
           with_reducible rfl
          rotate_left
          ·simp only [Act.put, List.setIfInBounds_toArray, List.set_cons_zero, List.set_cons_succ, i64_w, i32_w]
           rfl
          refine pure_ (i := 19) (N := some 96) (v := ?_) (a' := ?_) #[true, true, true, true, true, true, true, true, true, true, true, true, true, true, true, true, true, true, true, true, true, false, false, false, false, false, false, false, false, false, false, false, false] rfl rfl (any_of HT_.out (by kernel_rfl)) (fun _ _ _ h => h) (Or.inl ⟨by rfl, ?_⟩) ?_ ?_
          rotate_left
          ·intro w'
           go_simp
           with_reducible rfl
          rotate_left
          ·simp only [Act.put, List.setIfInBounds_toArray, List.set_cons_zero, List.set_cons_succ, i64_w, i32_w]
           rfl
          refine take_ (i := 21) (N := some 98) (v := ?_) (a' := ?_) #[true, true, true, true, true, true, true, true, true, true, true, true, true, true, true, true, true, true, true, true, true, true, false, false, false, false, false, false, false, false, false, false, false] rfl rfl (take_ofW HT_.out HW_.out (by kernel_rfl)) (fun _ _ _ h => h) (Or.inl ⟨by rfl, ?_⟩) hHeld ?_ ?_
          rotate_left
          ·rintro w' ⟨s0, s1, s2, s3, s4, s5⟩
           go_simp
           with_reducible rfl
          rotate_left
          ·simp only [Act.put, List.setIfInBounds_toArray, List.set_cons_zero, List.set_cons_succ, i64_w, i32_w]
           rfl
          refine pure_ (i := 22) (N := some 99) (v := ?_) (a' := ?_) #[true, true, true, true, true, true, true, true, true, true, true, true, true, true, true, true, true, true, true, true, true, true, true, false, false, false, false, false, false, false, false, false, false] rfl rfl (any_of HT_.out (by kernel_rfl)) (fun _ _ _ h => h) (Or.inl ⟨by rfl, ?_⟩) ?_ ?_
          rotate_left
          ·intro w'
           go_simp
           with_reducible rfl
          rotate_left
          ·simp only [Act.put, List.setIfInBounds_toArray, List.set_cons_zero, List.set_cons_succ, i64_w, i32_w]
           rfl
          refine pure_ (i := 23) (N := some 100) (v := ?_) (a' := ?_) #[true, true, true, true, true, true, true, true, true, true, true, true, true, true, true, true, true, true, true, true, true, true, true, true, false, false, false, false, false, false, false, false, false] rfl rfl (any_of HT_.out (by kernel_rfl)) (fun _ _ _ h => h) (Or.inl ⟨by rfl, ?_⟩) ?_ ?_
          rotate_left
          ·intro w'
           go_simp
           with_reducible rfl
          rotate_left
          ·simp only [Act.put, List.setIfInBounds_toArray, List.set_cons_zero, List.set_cons_succ, i64_w, i32_w]
           rfl
          refine pure_ (i := 24) (N := some 101) (v := ?_) (a' := ?_) #[true, true, true, true, true, true, true, true, true, true, true, true, true, true, true, true, true, true, true, true, true, true, true, true, true, false, false, false, false, false, false, false, false] rfl rfl (any_of HT_.out (by kernel_rfl)) (fun _ _ _ h => h) (Or.inl ⟨by rfl, ?_⟩) ?_ ?_
          rotate_left
          ·intro w'
           go_simp
           with_reducible rfl
          rotate_left
          ·simp only [Act.put, List.setIfInBounds_toArray, List.set_cons_zero, List.set_cons_succ, i64_w, i32_w]
           rfl
          refine pure_ (i := 30) (N := some 107) (v := ?_) (a' := ?_) #[true, true, true, true, true, true, true, true, true, true, true, true, true, true, true, true, true, true, true, true, true, true, true, true, true, false, false, false, false, false, true, false, false] rfl rfl (any_of HT_.out (by kernel_rfl)) (fun _ _ _ h => h) (Or.inl ⟨by rfl, ?_⟩) ?_ ?_
          rotate_left
          ·intro w'
           go_simp
           with_reducible rfl
          rotate_left
          ·simp only [Act.put, List.setIfInBounds_toArray, List.set_cons_zero, List.set_cons_succ, i64_w, i32_w]
           rfl
          refine take_ (i := 25) (N := some 102) (v := ?_) (a' := ?_) #[true, true, true, true, true, true, true, true, true, true, true, true, true, true, true, true, true, true, true, true, true, true, true, true, true, true, false, false, false, false, true, false, false] rfl rfl (take_ofW HT_.out HW_.out (by kernel_rfl)) (fun _ _ _ h => h) (Or.inl ⟨by rfl, ?_⟩) hHeld ?_ ?_
          rotate_left
          ·rintro w' ⟨s0, s1, s2, s3, s4, s5⟩
           go_simp
           with_reducible rfl
          rotate_left
          ·simp only [Act.put, List.setIfInBounds_toArray, List.set_cons_zero, List.set_cons_succ, i64_w, i32_w]
           rfl
          refine take_ (i := 27) (N := some 104) (v := ?_) (a' := ?_) #[true, true, true, true, true, true, true, true, true, true, true, true, true, true, true, true, true, true, true, true, true, true, true, true, true, true, false, true, false, false, true, false, false] rfl rfl (take_ofW HT_.out HW_.out (by kernel_rfl)) (fun _ _ _ h => h) (Or.inl ⟨by rfl, ?_⟩) hHeld ?_ ?_
          rotate_left
          ·rintro w' ⟨s0, s1, s2, s3, s4, s5⟩
           go_simp
           with_reducible rfl
          rotate_left
          ·simp only [Act.put, List.setIfInBounds_toArray, List.set_cons_zero, List.set_cons_succ, i64_w, i32_w]
           rfl
          refine one_ (i := 26) (N := some 103) #[true, true, true, true, true, true, true, true, true, true, true, true, true, true, true, true, true, true, true, true, true, true, true, true, true, true, true, true, false, false, true, false, false] rfl rfl (one_of HT_.out (by kernel_rfl)) (by decide) (fun K hK => ?_)
          refine goes_ Try.func24 (by kernel_rfl) rfl #[.agg #[.int .i64 t406, .string t407]] (by rfl) rfl rfl (by (try simp only [List.map_toArray, List.map_cons, List.map_nil]); first | done | rfl | (simp only [List.length_drop, List.length_take]; rfl)) ?_
          with_reducible refine (impl_TableCount.calls k t406 t407 t414 _ A57.out).mono ?_
          rintro e w61 ⟨rfl, hb⟩
          refine ⟨_, rfl, ?_⟩
          have n0_ := bb BK389 hb
          have n1_ := bb BK409 hb
          have n2_ := bb BK413 hb
          have n3_ := bs HB hb
          clear BK389
          clear BK409
          clear BK413
          clear HB
          have BK389 := n0_
          have BK409 := n1_
          have BK413 := n2_
          have HB := n3_
          clear n0_ n1_ n2_ n3_
          (try clear hb)
          (try clear hb2)
          (try clear hk)
          (try clear hi)
          refine hK.out _ _ ⟨(blk_cell BK409.out 0).trans rfl, (blk_cell BK409.out 1).trans rfl, (blk_cell BK389.out 0).trans rfl, (blk_cell BK389.out 1).trans rfl, (blk_cell BK413.out 0).trans rfl, (blk_cell BK413.out 1).trans rfl⟩ (fun hHeld => ?_)
          clear hK K
          refine norm_ (a' := ?_) ?_ ?_
          rotate_left
          ·show Act.put _ (some 103) _ = _
           simp only [Act.put, List.setIfInBounds_toArray, List.set_cons_zero, List.set_cons_succ, i64_w, i32_w]
           rfl
          refine one_ (i := 28) (N := some 105) #[true, true, true, true, true, true, true, true, true, true, true, true, true, true, true, true, true, true, true, true, true, true, true, true, true, true, true, true, true, false, true, false, false] rfl rfl (one_of HT_.out (by kernel_rfl)) (by decide) (fun K hK => ?_)
          refine goes_ Try.func24 (by kernel_rfl) rfl #[.agg #[.int .i64 t410, .string t411]] (by rfl) rfl rfl (by (try simp only [List.map_toArray, List.map_cons, List.map_nil]); first | done | rfl | (simp only [List.length_drop, List.length_take]; rfl)) ?_
          with_reducible refine (impl_TableCount.calls k t410 t411 t415 _ A58.out).mono ?_
          rintro e w62 ⟨rfl, hb⟩
          refine ⟨_, rfl, ?_⟩
          have n0_ := bb BK389 hb
          have n1_ := bb BK409 hb
          have n2_ := bb BK413 hb
          have n3_ := bs HB hb
          clear BK389
          clear BK409
          clear BK413
          clear HB
          have BK389 := n0_
          have BK409 := n1_
          have BK413 := n2_
          have HB := n3_
          clear n0_ n1_ n2_ n3_
          (try clear hb)
          (try clear hb2)
          (try clear hk)
          (try clear hi)
          refine hK.out _ _ ⟨(blk_cell BK409.out 0).trans rfl, (blk_cell BK409.out 1).trans rfl, (blk_cell BK389.out 0).trans rfl, (blk_cell BK389.out 1).trans rfl, (blk_cell BK413.out 0).trans rfl, (blk_cell BK413.out 1).trans rfl⟩ (fun hHeld => ?_)
          clear hK K
          refine norm_ (a' := ?_) ?_ ?_
          rotate_left
          ·show Act.put _ (some 105) _ = _
           simp only [Act.put, List.setIfInBounds_toArray, List.set_cons_zero, List.set_cons_succ, i64_w, i32_w]
           rfl
          refine pure_ (i := 29) (N := some 106) (v := ?_) (a' := ?_) #[true, true, true, true, true, true, true, true, true, true, true, true, true, true, true, true, true, true, true, true, true, true, true, true, true, true, true, true, true, true, true, false, false] rfl rfl (any_of HT_.out (by kernel_rfl)) (fun _ _ _ h => h) (Or.inl ⟨by rfl, ?_⟩) ?_ ?_
          rotate_left
          ·intro w'
           go_simp
           with_reducible rfl
          rotate_left
          ·simp only [Act.put, List.setIfInBounds_toArray, List.set_cons_zero, List.set_cons_succ, i64_w, i32_w]
           rfl
          refine pure_ (i := 31) (N := some 108) (v := ?_) (a' := ?_) #[true, true, true, true, true, true, true, true, true, true, true, true, true, true, true, true, true, true, true, true, true, true, true, true, true, true, true, true, true, true, true, true, false] rfl rfl (any_of HT_.out (by kernel_rfl)) (fun _ _ _ h => h) (Or.inl ⟨by rfl, ?_⟩) ?_ ?_
          rotate_left
          ·intro w'
           go_simp
           with_reducible rfl
          rotate_left
          ·simp only [Act.put, List.setIfInBounds_toArray, List.set_cons_zero, List.set_cons_succ, i64_w, i32_w]
           rfl
          refine pure_ (i := 32) (N := some 109) (v := ?_) (a' := ?_) #[true, true, true, true, true, true, true, true, true, true, true, true, true, true, true, true, true, true, true, true, true, true, true, true, true, true, true, true, true, true, true, true, true] rfl rfl (any_of HT_.out (by kernel_rfl)) (fun _ _ _ h => h) (Or.inl ⟨by rfl, ?_⟩) ?_ ?_
          rotate_left
          ·intro w'
           go_simp
           with_reducible rfl
          rotate_left
          ·simp only [Act.put, List.setIfInBounds_toArray, List.set_cons_zero, List.set_cons_succ, i64_w, i32_w]
           rfl
          refine done_ (done_of HT_.out (by kernel_rfl)) ?_
          try go_wp2
          go_meet
          case rel => exact ⟨_, (((wrap64 (t414 + t415)) != t398)), (by first | rfl | (simp; done) | (simp [*]; done)), H', ⟨by first | omega | exact Nat.le_refl _⟩, ⟨by (with_reducible repeat (first | refine blk_drewN ?_ _ | refine blk_drew ?_ | refine blk_alloc ?_ _)); exact BK389.out⟩, ⟨by (with_reducible repeat (first | refine blk_drewN ?_ _ | refine blk_drew ?_ | refine blk_alloc ?_ _)); exact BK409.out⟩, ⟨by (with_reducible repeat (first | refine blk_drewN ?_ _ | refine blk_drew ?_ | refine blk_alloc ?_ _)); exact BK413.out⟩, ⟨by repeat (first | (with_reducible first | exact HB.out | apply below_alloc | apply pw_below_drewN | apply below_drew1 | refine below_set ?_ GE389.out | refine below_set ?_ GE409.out | refine below_set ?_ GE413.out) | exact HB.out)⟩⟩
         ·rw [if_neg c56] at H
          have c56b0 : ((t407 ++ t411).toList == t388.toList) = false := beq_eq_false_iff_ne.mpr c56
          have c56b1 : ((t407 ++ t411).toList != t388.toList) = true := bne_iff_ne.mpr c56
          have H' := Aside0.mk H
          clear H
          try go_wp2
          have n0_ : Aside0 (((w48.setCell ⟨gb413, 0, none⟩ (.int .i64 t410)).setCell ⟨gb413, 1, none⟩ (.string t411)).heap[gb389]? = some (.cells #[.int .i64 t387, .string t388] 26 (0, 0))) := ⟨by (with_reducible repeat (first | refine blk_drewN ?_ _ | refine blk_drew ?_ | refine blk_alloc ?_ _)); refine blk_far ?_ NB389_413.out _; (with_reducible repeat (first | refine blk_drewN ?_ _ | refine blk_drew ?_ | refine blk_alloc ?_ _)); refine blk_far ?_ NB389_413.out _; (with_reducible repeat (first | refine blk_drewN ?_ _ | refine blk_drew ?_ | refine blk_alloc ?_ _)); exact BK389.out⟩
          have n1_ : Aside0 (((w48.setCell ⟨gb413, 0, none⟩ (.int .i64 t410)).setCell ⟨gb413, 1, none⟩ (.string t411)).heap[gb409]? = some (.cells #[.int .i64 t406, .string t407] 26 (0, 0))) := ⟨by (with_reducible repeat (first | refine blk_drewN ?_ _ | refine blk_drew ?_ | refine blk_alloc ?_ _)); refine blk_far ?_ NB409_413.out _; (with_reducible repeat (first | refine blk_drewN ?_ _ | refine blk_drew ?_ | refine blk_alloc ?_ _)); refine blk_far ?_ NB409_413.out _; (with_reducible repeat (first | refine blk_drewN ?_ _ | refine blk_drew ?_ | refine blk_alloc ?_ _)); exact BK409.out⟩
          have n2_ : Aside0 (((w48.setCell ⟨gb413, 0, none⟩ (.int .i64 t410)).setCell ⟨gb413, 1, none⟩ (.string t411)).heap[gb413]? = some (.cells #[.int .i64 t410, .string t411] 26 (0, 0))) := ⟨by (with_reducible repeat (first | refine blk_drewN ?_ _ | refine blk_drew ?_ | refine blk_alloc ?_ _)); refine blk_put (cs := #[.int .i64 t410, .string (⟨#[]⟩ : ByteArray)]) ?_ 1 _ rfl; (with_reducible repeat (first | refine blk_drewN ?_ _ | refine blk_drew ?_ | refine blk_alloc ?_ _)); refine blk_put (cs := #[.int .i64 0, .string (⟨#[]⟩ : ByteArray)]) ?_ 0 _ rfl; (with_reducible repeat (first | refine blk_drewN ?_ _ | refine blk_drew ?_ | refine blk_alloc ?_ _)); exact BK413.out⟩
          have n3_ : Aside0 (Below w.heap.size w ((w48.setCell ⟨gb413, 0, none⟩ (.int .i64 t410)).setCell ⟨gb413, 1, none⟩ (.string t411))) := ⟨by repeat (first | (with_reducible first | exact HB.out | apply below_alloc | apply pw_below_drewN | apply below_drew1 | refine below_set ?_ GE389.out | refine below_set ?_ GE409.out | refine below_set ?_ GE413.out) | exact HB.out)⟩
          (try clear BK389)
          (try clear BK409)
          (try clear BK413)
          (try clear HB)
          generalize ((w48.setCell ⟨gb413, 0, none⟩ (.int .i64 t410)).setCell ⟨gb413, 1, none⟩ (.string t411)) = w63 at n0_ n1_ n2_ n3_ ⊢
          have BK389 := n0_
          have BK409 := n1_
          have BK413 := n2_
          have HB := n3_
          clear n0_ n1_ n2_ n3_
          have n0_ := Aside0.mk (blk_drew BK389.out)
          have n1_ := Aside0.mk (blk_drew BK409.out)
          have n2_ := Aside0.mk (blk_drew BK413.out)
          have n3_ := Aside0.mk (below_drew1 HB.out)
          clear BK389
          clear BK409
          clear BK413
          clear HB
          have BK389 := n0_
          have BK409 := n1_
          have BK413 := n2_
          have HB := n3_
          clear n0_ n1_ n2_ n3_
          refine start_ (n := 33) (S := fun w' => w'.cell? ⟨gb409, 0, none⟩ = some (.int .i64 t406) ∧ w'.cell? ⟨gb409, 1, none⟩ = some (.string t407) ∧ w'.cell? ⟨gb389, 0, none⟩ = some (.int .i64 t387) ∧ w'.cell? ⟨gb389, 1, none⟩ = some (.string t388) ∧ w'.cell? ⟨gb413, 0, none⟩ = some (.int .i64 t410) ∧ w'.cell? ⟨gb413, 1, none⟩ = some (.string t411)) (ds := []) #[false, false, false, false, false, false, false, false, false, false, false, false, false, false, false, false, false, false, false, false, false, false, false, false, false, false, false, false, false, false, false, false, false] (by kernel_rfl) rfl rfl ⟨(blk_cell BK409.out 0).trans rfl, (blk_cell BK409.out 1).trans rfl, (blk_cell BK389.out 0).trans rfl, (blk_cell BK389.out 1).trans rfl, (blk_cell BK413.out 0).trans rfl, (blk_cell BK413.out 1).trans rfl⟩ (fun hHeld => ?_); refine with_tabW laws_FnHalves.tab13 laws_FnHalves.bits13 (fun HT_ HW_ => ?_)
          generalize w63.drew = w64 at BK389 BK409 BK413 HB hHeld ⊢
          refine pure_ (i := 0) (N := some 77) (v := ?_) (a' := ?_) #[true, false, false, false, false, false, false, false, false, false, false, false, false, false, false, false, false, false, false, false, false, false, false, false, false, false, false, false, false, false, false, false, false] rfl rfl (any_of HT_.out (by kernel_rfl)) (fun _ _ _ h => h) (Or.inl ⟨by rfl, ?_⟩) ?_ ?_
          rotate_left
          ·intro w'
           go_simp
           with_reducible rfl
          rotate_left
          ·simp only [Act.put, List.setIfInBounds_toArray, List.set_cons_zero, List.set_cons_succ, i64_w, i32_w]
           rfl
          refine pure_ (i := 1) (N := some 78) (v := ?_) (a' := ?_) #[true, true, false, false, false, false, false, false, false, false, false, false, false, false, false, false, false, false, false, false, false, false, false, false, false, false, false, false, false, false, false, false, false] rfl rfl (any_of HT_.out (by kernel_rfl)) (fun _ _ _ h => h) (Or.inl ⟨by rfl, ?_⟩) ?_ ?_
          rotate_left
          ·intro w'
           go_simp
           with_reducible rfl
          rotate_left
          ·simp only [Act.put, List.setIfInBounds_toArray, List.set_cons_zero, List.set_cons_succ, i64_w, i32_w]
           rfl
          refine pure_ (i := 2) (N := some 79) (v := ?_) (a' := ?_) #[true, true, true, false, false, false, false, false, false, false, false, false, false, false, false, false, false, false, false, false, false, false, false, false, false, false, false, false, false, false, false, false, false] rfl rfl (any_of HT_.out (by kernel_rfl)) (fun _ _ _ h => h) (Or.inl ⟨by rfl, ?_⟩) ?_ ?_
          rotate_left
          ·intro w'
           go_simp
           with_reducible rfl
          rotate_left
          ·simp only [Act.put, List.setIfInBounds_toArray, List.set_cons_zero, List.set_cons_succ, i64_w, i32_w]
           rfl
          refine pure_ (i := 3) (N := some 80) (v := ?_) (a' := ?_) #[true, true, true, true, false, false, false, false, false, false, false, false, false, false, false, false, false, false, false, false, false, false, false, false, false, false, false, false, false, false, false, false, false] rfl rfl (any_of HT_.out (by kernel_rfl)) (fun _ _ _ h => h) (Or.inl ⟨by rfl, ?_⟩) ?_ ?_
          rotate_left
          ·intro w'
           go_simp
           with_reducible rfl
          rotate_left
          ·simp only [Act.put, List.setIfInBounds_toArray, List.set_cons_zero, List.set_cons_succ, i64_w, i32_w]
           rfl
          refine pure_ (i := 4) (N := some 81) (v := ?_) (a' := ?_) #[true, true, true, true, true, false, false, false, false, false, false, false, false, false, false, false, false, false, false, false, false, false, false, false, false, false, false, false, false, false, false, false, false] rfl rfl (any_of HT_.out (by kernel_rfl)) (fun _ _ _ h => h) (Or.inl ⟨by rfl, ?_⟩) ?_ ?_
          rotate_left
          ·intro w'
           go_simp
           with_reducible rfl
          rotate_left
          ·simp only [Act.put, List.setIfInBounds_toArray, List.set_cons_zero, List.set_cons_succ, i64_w, i32_w]
           rfl
          refine pure_ (i := 5) (N := some 82) (v := ?_) (a' := ?_) #[true, true, true, true, true, true, false, false, false, false, false, false, false, false, false, false, false, false, false, false, false, false, false, false, false, false, false, false, false, false, false, false, false] rfl rfl (any_of HT_.out (by kernel_rfl)) (fun _ _ _ h => h) (Or.inl ⟨by rfl, ?_⟩) ?_ ?_
          rotate_left
          ·intro w'
           go_simp
           with_reducible rfl
          rotate_left
          ·simp only [Act.put, List.setIfInBounds_toArray, List.set_cons_zero, List.set_cons_succ, i64_w, i32_w]
           rfl
          refine pure_ (i := 6) (N := some 83) (v := ?_) (a' := ?_) #[true, true, true, true, true, true, true, false, false, false, false, false, false, false, false, false, false, false, false, false, false, false, false, false, false, false, false, false, false, false, false, false, false] rfl rfl (any_of HT_.out (by kernel_rfl)) (fun _ _ _ h => h) (Or.inl ⟨by rfl, ?_⟩) ?_ ?_
          rotate_left
          ·intro w'
           go_simp
           with_reducible rfl
          rotate_left
          ·simp only [Act.put, List.setIfInBounds_toArray, List.set_cons_zero, List.set_cons_succ, i64_w, i32_w]
           rfl
          refine pure_ (i := 7) (N := some 84) (v := ?_) (a' := ?_) #[true, true, true, true, true, true, true, true, false, false, false, false, false, false, false, false, false, false, false, false, false, false, false, false, false, false, false, false, false, false, false, false, false] rfl rfl (any_of HT_.out (by kernel_rfl)) (fun _ _ _ h => h) (Or.inl ⟨by rfl, ?_⟩) ?_ ?_
          rotate_left
          ·intro w'
           go_simp
           with_reducible rfl
          rotate_left
          ·simp only [Act.put, List.setIfInBounds_toArray, List.set_cons_zero, List.set_cons_succ, i64_w, i32_w]
           rfl
          refine pure_ (i := 9) (N := some 86) (v := ?_) (a' := ?_) #[true, true, true, true, true, true, true, true, false, true, false, false, false, false, false, false, false, false, false, false, false, false, false, false, false, false, false, false, false, false, false, false, false] rfl rfl (any_of HT_.out (by kernel_rfl)) (fun _ _ _ h => h) (Or.inl ⟨by rfl, ?_⟩) ?_ ?_
          rotate_left
          ·intro w'
           go_simp
           with_reducible rfl
          rotate_left
          ·simp only [Act.put, List.setIfInBounds_toArray, List.set_cons_zero, List.set_cons_succ, i64_w, i32_w]
           rfl
          refine take_ (i := 8) (N := some 85) (v := ?_) (a' := ?_) #[true, true, true, true, true, true, true, true, true, true, false, false, false, false, false, false, false, false, false, false, false, false, false, false, false, false, false, false, false, false, false, false, false] rfl rfl (take_ofW HT_.out HW_.out (by kernel_rfl)) (fun _ _ _ h => h) (Or.inl ⟨by rfl, ?_⟩) hHeld ?_ ?_
          rotate_left
          ·rintro w' ⟨s0, s1, s2, s3, s4, s5⟩
           go_simp
           with_reducible rfl
          rotate_left
          ·simp only [Act.put, List.setIfInBounds_toArray, List.set_cons_zero, List.set_cons_succ, i64_w, i32_w]
           rfl
          refine take_ (i := 10) (N := some 87) (v := ?_) (a' := ?_) #[true, true, true, true, true, true, true, true, true, true, true, false, false, false, false, false, false, false, false, false, false, false, false, false, false, false, false, false, false, false, false, false, false] rfl rfl (take_ofW HT_.out HW_.out (by kernel_rfl)) (fun _ _ _ h => h) (Or.inl ⟨by rfl, ?_⟩) hHeld ?_ ?_
          rotate_left
          ·rintro w' ⟨s0, s1, s2, s3, s4, s5⟩
           go_simp
           with_reducible rfl
          rotate_left
          ·simp only [Act.put, List.setIfInBounds_toArray, List.set_cons_zero, List.set_cons_succ, i64_w, i32_w]
           rfl
          refine pure_ (i := 11) (N := some 88) (v := ?_) (a' := ?_) #[true, true, true, true, true, true, true, true, true, true, true, true, false, false, false, false, false, false, false, false, false, false, false, false, false, false, false, false, false, false, false, false, false] rfl rfl (any_of HT_.out (by kernel_rfl)) (fun _ _ _ h => h) (Or.inl ⟨by rfl, ?_⟩) ?_ ?_
          rotate_left
          ·intro w'
           go_simp
           with_reducible rfl
          rotate_left
          ·simp only [Act.put, List.setIfInBounds_toArray, List.set_cons_zero, List.set_cons_succ, i64_w, i32_w]
           rfl
          refine pure_ (i := 12) (N := some 89) (v := ?_) (a' := ?_) #[true, true, true, true, true, true, true, true, true, true, true, true, true, false, false, false, false, false, false, false, false, false, false, false, false, false, false, false, false, false, false, false, false] rfl rfl (any_of HT_.out (by kernel_rfl)) (fun _ _ _ h => h) (Or.inl ⟨by rfl, ?_⟩) ?_ ?_
          rotate_left
          ·intro w'
           go_simp
           with_reducible rfl
          rotate_left
          ·simp only [Act.put, List.setIfInBounds_toArray, List.set_cons_zero, List.set_cons_succ, i64_w, i32_w]
           rfl
          refine pure_ (i := 13) (N := some 90) (v := ?_) (a' := ?_) #[true, true, true, true, true, true, true, true, true, true, true, true, true, true, false, false, false, false, false, false, false, false, false, false, false, false, false, false, false, false, false, false, false] rfl rfl (any_of HT_.out (by kernel_rfl)) (fun _ _ _ h => h) (Or.inl ⟨by rfl, ?_⟩) ?_ ?_
          rotate_left
          ·intro w'
           go_simp
           with_reducible rfl
          rotate_left
          ·simp only [Act.put, List.setIfInBounds_toArray, List.set_cons_zero, List.set_cons_succ, i64_w, i32_w]
           rfl
          refine pure_ (i := 14) (N := some 91) (v := ?_) (a' := ?_) #[true, true, true, true, true, true, true, true, true, true, true, true, true, true, true, false, false, false, false, false, false, false, false, false, false, false, false, false, false, false, false, false, false] rfl rfl (any_of HT_.out (by kernel_rfl)) (fun _ _ _ h => h) (Or.inl ⟨by rfl, ?_⟩) ?_ ?_
          rotate_left
          ·intro w'
           go_simp
           with_reducible rfl
          rotate_left
          ·simp only [Act.put, List.setIfInBounds_toArray, List.set_cons_zero, List.set_cons_succ, i64_w, i32_w]
           rfl
          refine pure_ (i := 15) (N := some 92) (v := ?_) (a' := ?_) #[true, true, true, true, true, true, true, true, true, true, true, true, true, true, true, true, false, false, false, false, false, false, false, false, false, false, false, false, false, false, false, false, false] rfl rfl (any_of HT_.out (by kernel_rfl)) (fun _ _ _ h => h) (Or.inl ⟨by rfl, ?_⟩) ?_ ?_
          rotate_left
          ·intro w'
           go_simp
           with_reducible rfl
          rotate_left
          ·simp only [Act.put, List.setIfInBounds_toArray, List.set_cons_zero, List.set_cons_succ, i64_w, i32_w]
           rfl
          refine pure_ (i := 17) (N := some 94) (v := ?_) (a' := ?_) #[true, true, true, true, true, true, true, true, true, true, true, true, true, true, true, true, false, true, false, false, false, false, false, false, false, false, false, false, false, false, false, false, false] rfl rfl (any_of HT_.out (by kernel_rfl)) (fun _ _ _ h => h) (Or.inl ⟨by rfl, ?_⟩) ?_ ?_
          rotate_left
          ·intro w'
           go_simp
           with_reducible rfl
          rotate_left
          ·simp only [Act.put, List.setIfInBounds_toArray, List.set_cons_zero, List.set_cons_succ, i64_w, i32_w]
           rfl
          refine pure_ (i := 20) (N := some 97) (v := ?_) (a' := ?_) #[true, true, true, true, true, true, true, true, true, true, true, true, true, true, true, true, false, true, false, false, true, false, false, false, false, false, false, false, false, false, false, false, false] rfl rfl (any_of HT_.out (by kernel_rfl)) (fun _ _ _ h => h) (Or.inl ⟨by rfl, ?_⟩) ?_ ?_
          rotate_left
          ·intro w'
           go_simp
           with_reducible rfl
          rotate_left
          ·simp only [Act.put, List.setIfInBounds_toArray, List.set_cons_zero, List.set_cons_succ, i64_w, i32_w]
           rfl
          refine take_ (i := 16) (N := some 93) (v := ?_) (a' := ?_) #[true, true, true, true, true, true, true, true, true, true, true, true, true, true, true, true, true, true, false, false, true, false, false, false, false, false, false, false, false, false, false, false, false] rfl rfl (take_ofW HT_.out HW_.out (by kernel_rfl)) (fun _ _ _ h => h) (Or.inl ⟨by rfl, ?_⟩) hHeld ?_ ?_
          rotate_left
          ·rintro w' ⟨s0, s1, s2, s3, s4, s5⟩
           go_simp
           with_reducible rfl
          rotate_left
          ·simp only [Act.put, List.setIfInBounds_toArray, List.set_cons_zero, List.set_cons_succ, i64_w, i32_w]
           rfl
          refine take_ (i := 18) (N := some 95) (v := ?_) (a' := ?_) #[true, true, true, true, true, true, true, true, true, true, true, true, true, true, true, true, true, true, true, false, true, false, false, false, false, false, false, false, false, false, false, false, false] rfl rfl (take_ofW HT_.out HW_.out (by kernel_rfl)) (fun _ _ _ h => h) (Or.inl ⟨by rfl, ?_⟩) hHeld ?_ ?_
          rotate_left
          ·rintro w' ⟨s0, s1, s2, s3, s4, s5⟩
           go_simp
           with_reducible rfl
          rotate_left
          ·simp only [Act.put, List.setIfInBounds_toArray, List.set_cons_zero, List.set_cons_succ, i64_w, i32_w]
           rfl
          refine pure_ (i := 19) (N := some 96) (v := ?_) (a' := ?_) #[true, true, true, true, true, true, true, true, true, true, true, true, true, true, true, true, true, true, true, true, true, false, false, false, false, false, false, false, false, false, false, false, false] rfl rfl (any_of HT_.out (by kernel_rfl)) (fun _ _ _ h => h) (Or.inl ⟨by rfl, ?_⟩) ?_ ?_
          rotate_left
          ·intro w'
           go_simp
           with_reducible rfl
          rotate_left
          ·simp only [Act.put, List.setIfInBounds_toArray, List.set_cons_zero, List.set_cons_succ, i64_w, i32_w]
           rfl
          refine take_ (i := 21) (N := some 98) (v := ?_) (a' := ?_) #[true, true, true, true, true, true, true, true, true, true, true, true, true, true, true, true, true, true, true, true, true, true, false, false, false, false, false, false, false, false, false, false, false] rfl rfl (take_ofW HT_.out HW_.out (by kernel_rfl)) (fun _ _ _ h => h) (Or.inl ⟨by rfl, ?_⟩) hHeld ?_ ?_
          rotate_left
          ·rintro w' ⟨s0, s1, s2, s3, s4, s5⟩
           go_simp
           with_reducible rfl
          rotate_left
          ·simp only [Act.put, List.setIfInBounds_toArray, List.set_cons_zero, List.set_cons_succ, i64_w, i32_w]
           rfl
          refine pure_ (i := 22) (N := some 99) (v := ?_) (a' := ?_) #[true, true, true, true, true, true, true, true, true, true, true, true, true, true, true, true, true, true, true, true, true, true, true, false, false, false, false, false, false, false, false, false, false] rfl rfl (any_of HT_.out (by kernel_rfl)) (fun _ _ _ h => h) (Or.inl ⟨by rfl, ?_⟩) ?_ ?_
          rotate_left
          ·intro w'
           go_simp
           with_reducible rfl
          rotate_left
          ·simp only [Act.put, List.setIfInBounds_toArray, List.set_cons_zero, List.set_cons_succ, i64_w, i32_w]
           rfl
          refine pure_ (i := 23) (N := some 100) (v := ?_) (a' := ?_) #[true, true, true, true, true, true, true, true, true, true, true, true, true, true, true, true, true, true, true, true, true, true, true, true, false, false, false, false, false, false, false, false, false] rfl rfl (any_of HT_.out (by kernel_rfl)) (fun _ _ _ h => h) (Or.inl ⟨by rfl, ?_⟩) ?_ ?_
          rotate_left
          ·intro w'
           go_simp
           with_reducible rfl
          rotate_left
          ·simp only [Act.put, List.setIfInBounds_toArray, List.set_cons_zero, List.set_cons_succ, i64_w, i32_w]
           rfl
          refine pure_ (i := 24) (N := some 101) (v := ?_) (a' := ?_) #[true, true, true, true, true, true, true, true, true, true, true, true, true, true, true, true, true, true, true, true, true, true, true, true, true, false, false, false, false, false, false, false, false] rfl rfl (any_of HT_.out (by kernel_rfl)) (fun _ _ _ h => h) (Or.inl ⟨by rfl, ?_⟩) ?_ ?_
          rotate_left
          ·intro w'
           go_simp
           with_reducible rfl
          rotate_left
          ·simp only [Act.put, List.setIfInBounds_toArray, List.set_cons_zero, List.set_cons_succ, i64_w, i32_w]
           rfl
          refine pure_ (i := 25) (N := some 102) (v := undef) (a' := ?_) #[true, true, true, true, true, true, true, true, true, true, true, true, true, true, true, true, true, true, true, true, true, true, true, true, true, true, false, false, false, false, false, false, false] rfl rfl (any_of HT_.out (by kernel_rfl)) (fun _ _ _ h => h) (Or.inr ⟨by rfl, rfl⟩) ?_ ?_
          rotate_left
          ·simp only [Act.put, List.setIfInBounds_toArray, List.set_cons_zero, List.set_cons_succ, i64_w, i32_w]
           rfl
          refine pure_ (i := 26) (N := some 103) (v := undef) (a' := ?_) #[true, true, true, true, true, true, true, true, true, true, true, true, true, true, true, true, true, true, true, true, true, true, true, true, true, true, true, false, false, false, false, false, false] rfl rfl (any_of HT_.out (by kernel_rfl)) (fun _ _ _ h => h) (Or.inr ⟨by rfl, rfl⟩) ?_ ?_
          rotate_left
          ·simp only [Act.put, List.setIfInBounds_toArray, List.set_cons_zero, List.set_cons_succ, i64_w, i32_w]
           rfl
          refine pure_ (i := 27) (N := some 104) (v := undef) (a' := ?_) #[true, true, true, true, true, true, true, true, true, true, true, true, true, true, true, true, true, true, true, true, true, true, true, true, true, true, true, true, false, false, false, false, false] rfl rfl (any_of HT_.out (by kernel_rfl)) (fun _ _ _ h => h) (Or.inr ⟨by rfl, rfl⟩) ?_ ?_
          rotate_left
          ·simp only [Act.put, List.setIfInBounds_toArray, List.set_cons_zero, List.set_cons_succ, i64_w, i32_w]
           rfl
          refine pure_ (i := 28) (N := some 105) (v := undef) (a' := ?_) #[true, true, true, true, true, true, true, true, true, true, true, true, true, true, true, true, true, true, true, true, true, true, true, true, true, true, true, true, true, false, false, false, false] rfl rfl (any_of HT_.out (by kernel_rfl)) (fun _ _ _ h => h) (Or.inr ⟨by rfl, rfl⟩) ?_ ?_
          rotate_left
          ·simp only [Act.put, List.setIfInBounds_toArray, List.set_cons_zero, List.set_cons_succ, i64_w, i32_w]
           rfl
          refine pure_ (i := 29) (N := some 106) (v := undef) (a' := ?_) #[true, true, true, true, true, true, true, true, true, true, true, true, true, true, true, true, true, true, true, true, true, true, true, true, true, true, true, true, true, true, false, false, false] rfl rfl (any_of HT_.out (by kernel_rfl)) (fun _ _ _ h => h) (Or.inr ⟨by rfl, rfl⟩) ?_ ?_
          rotate_left
          ·simp only [Act.put, List.setIfInBounds_toArray, List.set_cons_zero, List.set_cons_succ, i64_w, i32_w]
           rfl
          refine pure_ (i := 30) (N := some 107) (v := undef) (a' := ?_) #[true, true, true, true, true, true, true, true, true, true, true, true, true, true, true, true, true, true, true, true, true, true, true, true, true, true, true, true, true, true, true, false, false] rfl rfl (any_of HT_.out (by kernel_rfl)) (fun _ _ _ h => h) (Or.inr ⟨by rfl, rfl⟩) ?_ ?_
          rotate_left
          ·simp only [Act.put, List.setIfInBounds_toArray, List.set_cons_zero, List.set_cons_succ, i64_w, i32_w]
           rfl
          refine pure_ (i := 31) (N := some 108) (v := undef) (a' := ?_) #[true, true, true, true, true, true, true, true, true, true, true, true, true, true, true, true, true, true, true, true, true, true, true, true, true, true, true, true, true, true, true, true, false] rfl rfl (any_of HT_.out (by kernel_rfl)) (fun _ _ _ h => h) (Or.inr ⟨by rfl, rfl⟩) ?_ ?_
          rotate_left
          ·simp only [Act.put, List.setIfInBounds_toArray, List.set_cons_zero, List.set_cons_succ, i64_w, i32_w]
           rfl
          refine pure_ (i := 32) (N := some 109) (v := ?_) (a' := ?_) #[true, true, true, true, true, true, true, true, true, true, true, true, true, true, true, true, true, true, true, true, true, true, true, true, true, true, true, true, true, true, true, true, true] rfl rfl (any_of HT_.out (by kernel_rfl)) (fun _ _ _ h => h) (Or.inl ⟨by rfl, ?_⟩) ?_ ?_
          rotate_left
          ·intro w'
           go_simp
           with_reducible rfl
          rotate_left
          ·simp only [Act.put, List.setIfInBounds_toArray, List.set_cons_zero, List.set_cons_succ, i64_w, i32_w]
           rfl
          refine done_ (done_of HT_.out (by kernel_rfl)) ?_
          try go_wp2
          go_meet
          case rel => exact ⟨_, (true), (by first | rfl | (simp; done) | (simp [*]; done)), H', ⟨by first | omega | exact Nat.le_refl _⟩, ⟨by (with_reducible repeat (first | refine blk_drewN ?_ _ | refine blk_drew ?_ | refine blk_alloc ?_ _)); exact BK389.out⟩, ⟨by (with_reducible repeat (first | refine blk_drewN ?_ _ | refine blk_drew ?_ | refine blk_alloc ?_ _)); exact BK409.out⟩, ⟨by (with_reducible repeat (first | refine blk_drewN ?_ _ | refine blk_drew ?_ | refine blk_alloc ?_ _)); exact BK413.out⟩, ⟨by repeat (first | (with_reducible first | exact HB.out | apply below_alloc | apply pw_below_drewN | apply below_drew1 | refine below_set ?_ GE389.out | refine below_set ?_ GE409.out | refine below_set ?_ GE413.out) | exact HB.out)⟩⟩
        ·rw [if_neg c55] at H
         exact absurd H (by simp)
       ·rw [if_neg c54] at H
        have c54b0 : (t406 == (wrap64 (t387 - 1))) = false := beq_eq_false_iff_ne.mpr c54
        have c54b1 : (t406 != (wrap64 (t387 - 1))) = true := bne_iff_ne.mpr c54
        (first | rw [c54b0] | (simp only [i64_w, i32_w]; rw [c54b0]) | skip)
        have H' := Aside0.mk H
        clear H
        try go_wp2
        have n0_ : Aside0 (((w48.setCell ⟨gb413, 0, none⟩ (.int .i64 t410)).setCell ⟨gb413, 1, none⟩ (.string t411)).heap[gb389]? = some (.cells #[.int .i64 t387, .string t388] 26 (0, 0))) := ⟨by (with_reducible repeat (first | refine blk_drewN ?_ _ | refine blk_drew ?_ | refine blk_alloc ?_ _)); refine blk_far ?_ NB389_413.out _; (with_reducible repeat (first | refine blk_drewN ?_ _ | refine blk_drew ?_ | refine blk_alloc ?_ _)); refine blk_far ?_ NB389_413.out _; (with_reducible repeat (first | refine blk_drewN ?_ _ | refine blk_drew ?_ | refine blk_alloc ?_ _)); exact BK389.out⟩
        have n1_ : Aside0 (((w48.setCell ⟨gb413, 0, none⟩ (.int .i64 t410)).setCell ⟨gb413, 1, none⟩ (.string t411)).heap[gb409]? = some (.cells #[.int .i64 t406, .string t407] 26 (0, 0))) := ⟨by (with_reducible repeat (first | refine blk_drewN ?_ _ | refine blk_drew ?_ | refine blk_alloc ?_ _)); refine blk_far ?_ NB409_413.out _; (with_reducible repeat (first | refine blk_drewN ?_ _ | refine blk_drew ?_ | refine blk_alloc ?_ _)); refine blk_far ?_ NB409_413.out _; (with_reducible repeat (first | refine blk_drewN ?_ _ | refine blk_drew ?_ | refine blk_alloc ?_ _)); exact BK409.out⟩
        have n2_ : Aside0 (((w48.setCell ⟨gb413, 0, none⟩ (.int .i64 t410)).setCell ⟨gb413, 1, none⟩ (.string t411)).heap[gb413]? = some (.cells #[.int .i64 t410, .string t411] 26 (0, 0))) := ⟨by (with_reducible repeat (first | refine blk_drewN ?_ _ | refine blk_drew ?_ | refine blk_alloc ?_ _)); refine blk_put (cs := #[.int .i64 t410, .string (⟨#[]⟩ : ByteArray)]) ?_ 1 _ rfl; (with_reducible repeat (first | refine blk_drewN ?_ _ | refine blk_drew ?_ | refine blk_alloc ?_ _)); refine blk_put (cs := #[.int .i64 0, .string (⟨#[]⟩ : ByteArray)]) ?_ 0 _ rfl; (with_reducible repeat (first | refine blk_drewN ?_ _ | refine blk_drew ?_ | refine blk_alloc ?_ _)); exact BK413.out⟩
        have n3_ : Aside0 (Below w.heap.size w ((w48.setCell ⟨gb413, 0, none⟩ (.int .i64 t410)).setCell ⟨gb413, 1, none⟩ (.string t411))) := ⟨by repeat (first | (with_reducible first | exact HB.out | apply below_alloc | apply pw_below_drewN | apply below_drew1 | refine below_set ?_ GE389.out | refine below_set ?_ GE409.out | refine below_set ?_ GE413.out) | exact HB.out)⟩
        (try clear BK389)
        (try clear BK409)
        (try clear BK413)
        (try clear HB)
        generalize ((w48.setCell ⟨gb413, 0, none⟩ (.int .i64 t410)).setCell ⟨gb413, 1, none⟩ (.string t411)) = w65 at n0_ n1_ n2_ n3_ ⊢
        have BK389 := n0_
        have BK409 := n1_
        have BK413 := n2_
        have HB := n3_
        clear n0_ n1_ n2_ n3_
        have n0_ := Aside0.mk (blk_drew BK389.out)
        have n1_ := Aside0.mk (blk_drew BK409.out)
        have n2_ := Aside0.mk (blk_drew BK413.out)
        have n3_ := Aside0.mk (below_drew1 HB.out)
        clear BK389
        clear BK409
        clear BK413
        clear HB
        have BK389 := n0_
        have BK409 := n1_
        have BK413 := n2_
        have HB := n3_
        clear n0_ n1_ n2_ n3_
        refine start_ (n := 33) (S := fun w' => w'.cell? ⟨gb409, 0, none⟩ = some (.int .i64 t406) ∧ w'.cell? ⟨gb409, 1, none⟩ = some (.string t407) ∧ w'.cell? ⟨gb389, 0, none⟩ = some (.int .i64 t387) ∧ w'.cell? ⟨gb389, 1, none⟩ = some (.string t388)) (ds := []) #[false, false, false, false, false, false, false, false, false, false, false, false, false, false, false, false, false, false, false, false, false, false, false, false, false, false, false, false, false, false, false, false, false] (by kernel_rfl) rfl rfl ⟨(blk_cell BK409.out 0).trans rfl, (blk_cell BK409.out 1).trans rfl, (blk_cell BK389.out 0).trans rfl, (blk_cell BK389.out 1).trans rfl⟩ (fun hHeld => ?_); refine with_tabW laws_FnHalves.tab13 laws_FnHalves.bits13 (fun HT_ HW_ => ?_)
        generalize w65.drew = w66 at BK389 BK409 BK413 HB hHeld ⊢
        refine pure_ (i := 0) (N := some 77) (v := ?_) (a' := ?_) #[true, false, false, false, false, false, false, false, false, false, false, false, false, false, false, false, false, false, false, false, false, false, false, false, false, false, false, false, false, false, false, false, false] rfl rfl (any_of HT_.out (by kernel_rfl)) (fun _ _ _ h => h) (Or.inl ⟨by rfl, ?_⟩) ?_ ?_
        rotate_left
        ·intro w'
         go_simp
         with_reducible rfl
        rotate_left
        ·simp only [Act.put, List.setIfInBounds_toArray, List.set_cons_zero, List.set_cons_succ, i64_w, i32_w]
         rfl
        refine pure_ (i := 1) (N := some 78) (v := ?_) (a' := ?_) #[true, true, false, false, false, false, false, false, false, false, false, false, false, false, false, false, false, false, false, false, false, false, false, false, false, false, false, false, false, false, false, false, false] rfl rfl (any_of HT_.out (by kernel_rfl)) (fun _ _ _ h => h) (Or.inl ⟨by rfl, ?_⟩) ?_ ?_
        rotate_left
        ·intro w'
         go_simp
         with_reducible rfl
        rotate_left
        ·simp only [Act.put, List.setIfInBounds_toArray, List.set_cons_zero, List.set_cons_succ, i64_w, i32_w]
         rfl
        refine pure_ (i := 2) (N := some 79) (v := ?_) (a' := ?_) #[true, true, true, false, false, false, false, false, false, false, false, false, false, false, false, false, false, false, false, false, false, false, false, false, false, false, false, false, false, false, false, false, false] rfl rfl (any_of HT_.out (by kernel_rfl)) (fun _ _ _ h => h) (Or.inl ⟨by rfl, ?_⟩) ?_ ?_
        rotate_left
        ·intro w'
         go_simp
         with_reducible rfl
        rotate_left
        ·simp only [Act.put, List.setIfInBounds_toArray, List.set_cons_zero, List.set_cons_succ, i64_w, i32_w]
         rfl
        refine pure_ (i := 3) (N := some 80) (v := ?_) (a' := ?_) #[true, true, true, true, false, false, false, false, false, false, false, false, false, false, false, false, false, false, false, false, false, false, false, false, false, false, false, false, false, false, false, false, false] rfl rfl (any_of HT_.out (by kernel_rfl)) (fun _ _ _ h => h) (Or.inl ⟨by rfl, ?_⟩) ?_ ?_
        rotate_left
        ·intro w'
         go_simp
         with_reducible rfl
        rotate_left
        ·simp only [Act.put, List.setIfInBounds_toArray, List.set_cons_zero, List.set_cons_succ, i64_w, i32_w]
         rfl
        refine pure_ (i := 4) (N := some 81) (v := ?_) (a' := ?_) #[true, true, true, true, true, false, false, false, false, false, false, false, false, false, false, false, false, false, false, false, false, false, false, false, false, false, false, false, false, false, false, false, false] rfl rfl (any_of HT_.out (by kernel_rfl)) (fun _ _ _ h => h) (Or.inl ⟨by rfl, ?_⟩) ?_ ?_
        rotate_left
        ·intro w'
         go_simp
         with_reducible rfl
        rotate_left
        ·simp only [Act.put, List.setIfInBounds_toArray, List.set_cons_zero, List.set_cons_succ, i64_w, i32_w]
         rfl
        refine pure_ (i := 5) (N := some 82) (v := ?_) (a' := ?_) #[true, true, true, true, true, true, false, false, false, false, false, false, false, false, false, false, false, false, false, false, false, false, false, false, false, false, false, false, false, false, false, false, false] rfl rfl (any_of HT_.out (by kernel_rfl)) (fun _ _ _ h => h) (Or.inl ⟨by rfl, ?_⟩) ?_ ?_
        rotate_left
        ·intro w'
         go_simp
         with_reducible rfl
        rotate_left
        ·simp only [Act.put, List.setIfInBounds_toArray, List.set_cons_zero, List.set_cons_succ, i64_w, i32_w]
         rfl
        refine pure_ (i := 6) (N := some 83) (v := ?_) (a' := ?_) #[true, true, true, true, true, true, true, false, false, false, false, false, false, false, false, false, false, false, false, false, false, false, false, false, false, false, false, false, false, false, false, false, false] rfl rfl (any_of HT_.out (by kernel_rfl)) (fun _ _ _ h => h) (Or.inl ⟨by rfl, ?_⟩) ?_ ?_
        rotate_left
        ·intro w'
         go_simp
         with_reducible rfl
        rotate_left
        ·simp only [Act.put, List.setIfInBounds_toArray, List.set_cons_zero, List.set_cons_succ, i64_w, i32_w]
         rfl
        refine pure_ (i := 7) (N := some 84) (v := ?_) (a' := ?_) #[true, true, true, true, true, true, true, true, false, false, false, false, false, false, false, false, false, false, false, false, false, false, false, false, false, false, false, false, false, false, false, false, false] rfl rfl (any_of HT_.out (by kernel_rfl)) (fun _ _ _ h => h) (Or.inl ⟨by rfl, ?_⟩) ?_ ?_
        rotate_left
        ·intro w'
         go_simp
         with_reducible rfl
        rotate_left
        ·simp only [Act.put, List.setIfInBounds_toArray, List.set_cons_zero, List.set_cons_succ, i64_w, i32_w]
         rfl
        refine pure_ (i := 9) (N := some 86) (v := ?_) (a' := ?_) #[true, true, true, true, true, true, true, true, false, true, false, false, false, false, false, false, false, false, false, false, false, false, false, false, false, false, false, false, false, false, false, false, false] rfl rfl (any_of HT_.out (by kernel_rfl)) (fun _ _ _ h => h) (Or.inl ⟨by rfl, ?_⟩) ?_ ?_
        rotate_left
        ·intro w'
         go_simp
         with_reducible rfl
        rotate_left
        ·simp only [Act.put, List.setIfInBounds_toArray, List.set_cons_zero, List.set_cons_succ, i64_w, i32_w]
         rfl
        refine take_ (i := 8) (N := some 85) (v := ?_) (a' := ?_) #[true, true, true, true, true, true, true, true, true, true, false, false, false, false, false, false, false, false, false, false, false, false, false, false, false, false, false, false, false, false, false, false, false] rfl rfl (take_ofW HT_.out HW_.out (by kernel_rfl)) (fun _ _ _ h => h) (Or.inl ⟨by rfl, ?_⟩) hHeld ?_ ?_
        rotate_left
        ·rintro w' ⟨s0, s1, s2, s3⟩
         go_simp
         with_reducible rfl
        rotate_left
        ·simp only [Act.put, List.setIfInBounds_toArray, List.set_cons_zero, List.set_cons_succ, i64_w, i32_w]
         rfl
        refine take_ (i := 10) (N := some 87) (v := ?_) (a' := ?_) #[true, true, true, true, true, true, true, true, true, true, true, false, false, false, false, false, false, false, false, false, false, false, false, false, false, false, false, false, false, false, false, false, false] rfl rfl (take_ofW HT_.out HW_.out (by kernel_rfl)) (fun _ _ _ h => h) (Or.inl ⟨by rfl, ?_⟩) hHeld ?_ ?_
        rotate_left
        ·rintro w' ⟨s0, s1, s2, s3⟩
         go_simp
         with_reducible rfl
        rotate_left
        ·simp only [Act.put, List.setIfInBounds_toArray, List.set_cons_zero, List.set_cons_succ, i64_w, i32_w]
         rfl
        refine pure_ (i := 11) (N := some 88) (v := ?_) (a' := ?_) #[true, true, true, true, true, true, true, true, true, true, true, true, false, false, false, false, false, false, false, false, false, false, false, false, false, false, false, false, false, false, false, false, false] rfl rfl (any_of HT_.out (by kernel_rfl)) (fun _ _ _ h => h) (Or.inl ⟨by rfl, ?_⟩) ?_ ?_
        rotate_left
        ·intro w'
         go_simp
         with_reducible rfl
        rotate_left
        ·simp only [Act.put, List.setIfInBounds_toArray, List.set_cons_zero, List.set_cons_succ, i64_w, i32_w]
         rfl
        refine pure_ (i := 12) (N := some 89) (v := ?_) (a' := ?_) #[true, true, true, true, true, true, true, true, true, true, true, true, true, false, false, false, false, false, false, false, false, false, false, false, false, false, false, false, false, false, false, false, false] rfl rfl (any_of HT_.out (by kernel_rfl)) (fun _ _ _ h => h) (Or.inl ⟨by rfl, ?_⟩) ?_ ?_
        rotate_left
        ·intro w'
         go_simp
         with_reducible rfl
        rotate_left
        ·simp only [Act.put, List.setIfInBounds_toArray, List.set_cons_zero, List.set_cons_succ, i64_w, i32_w]
         rfl
        refine pure_ (i := 13) (N := some 90) (v := ?_) (a' := ?_) #[true, true, true, true, true, true, true, true, true, true, true, true, true, true, false, false, false, false, false, false, false, false, false, false, false, false, false, false, false, false, false, false, false] rfl rfl (any_of HT_.out (by kernel_rfl)) (fun _ _ _ h => h) (Or.inl ⟨by rfl, ?_⟩) ?_ ?_
        rotate_left
        ·intro w'
         go_simp
         with_reducible rfl
        rotate_left
        ·simp only [Act.put, List.setIfInBounds_toArray, List.set_cons_zero, List.set_cons_succ, i64_w, i32_w]
         rfl
        refine pure_ (i := 14) (N := some 91) (v := ?_) (a' := ?_) #[true, true, true, true, true, true, true, true, true, true, true, true, true, true, true, false, false, false, false, false, false, false, false, false, false, false, false, false, false, false, false, false, false] rfl rfl (any_of HT_.out (by kernel_rfl)) (fun _ _ _ h => h) (Or.inl ⟨by rfl, ?_⟩) ?_ ?_
        rotate_left
        ·intro w'
         go_simp
         with_reducible rfl
        rotate_left
        ·simp only [Act.put, List.setIfInBounds_toArray, List.set_cons_zero, List.set_cons_succ, i64_w, i32_w]
         rfl
        refine pure_ (i := 15) (N := some 92) (v := undef) (a' := ?_) #[true, true, true, true, true, true, true, true, true, true, true, true, true, true, true, true, false, false, false, false, false, false, false, false, false, false, false, false, false, false, false, false, false] rfl rfl (any_of HT_.out (by kernel_rfl)) (fun _ _ _ h => h) (Or.inr ⟨by rfl, rfl⟩) ?_ ?_
        rotate_left
        ·simp only [Act.put, List.setIfInBounds_toArray, List.set_cons_zero, List.set_cons_succ, i64_w, i32_w]
         rfl
        refine pure_ (i := 16) (N := some 93) (v := undef) (a' := ?_) #[true, true, true, true, true, true, true, true, true, true, true, true, true, true, true, true, true, false, false, false, false, false, false, false, false, false, false, false, false, false, false, false, false] rfl rfl (any_of HT_.out (by kernel_rfl)) (fun _ _ _ h => h) (Or.inr ⟨by rfl, rfl⟩) ?_ ?_
        rotate_left
        ·simp only [Act.put, List.setIfInBounds_toArray, List.set_cons_zero, List.set_cons_succ, i64_w, i32_w]
         rfl
        refine pure_ (i := 17) (N := some 94) (v := undef) (a' := ?_) #[true, true, true, true, true, true, true, true, true, true, true, true, true, true, true, true, true, true, false, false, false, false, false, false, false, false, false, false, false, false, false, false, false] rfl rfl (any_of HT_.out (by kernel_rfl)) (fun _ _ _ h => h) (Or.inr ⟨by rfl, rfl⟩) ?_ ?_
        rotate_left
        ·simp only [Act.put, List.setIfInBounds_toArray, List.set_cons_zero, List.set_cons_succ, i64_w, i32_w]
         rfl
        refine pure_ (i := 18) (N := some 95) (v := undef) (a' := ?_) #[true, true, true, true, true, true, true, true, true, true, true, true, true, true, true, true, true, true, true, false, false, false, false, false, false, false, false, false, false, false, false, false, false] rfl rfl (any_of HT_.out (by kernel_rfl)) (fun _ _ _ h => h) (Or.inr ⟨by rfl, rfl⟩) ?_ ?_
        rotate_left
        ·simp only [Act.put, List.setIfInBounds_toArray, List.set_cons_zero, List.set_cons_succ, i64_w, i32_w]
         rfl
        refine pure_ (i := 19) (N := some 96) (v := undef) (a' := ?_) #[true, true, true, true, true, true, true, true, true, true, true, true, true, true, true, true, true, true, true, true, false, false, false, false, false, false, false, false, false, false, false, false, false] rfl rfl (any_of HT_.out (by kernel_rfl)) (fun _ _ _ h => h) (Or.inr ⟨by rfl, rfl⟩) ?_ ?_
        rotate_left
        ·simp only [Act.put, List.setIfInBounds_toArray, List.set_cons_zero, List.set_cons_succ, i64_w, i32_w]
         rfl
        refine pure_ (i := 20) (N := some 97) (v := undef) (a' := ?_) #[true, true, true, true, true, true, true, true, true, true, true, true, true, true, true, true, true, true, true, true, true, false, false, false, false, false, false, false, false, false, false, false, false] rfl rfl (any_of HT_.out (by kernel_rfl)) (fun _ _ _ h => h) (Or.inr ⟨by rfl, rfl⟩) ?_ ?_
        rotate_left
        ·simp only [Act.put, List.setIfInBounds_toArray, List.set_cons_zero, List.set_cons_succ, i64_w, i32_w]
         rfl
        refine pure_ (i := 21) (N := some 98) (v := undef) (a' := ?_) #[true, true, true, true, true, true, true, true, true, true, true, true, true, true, true, true, true, true, true, true, true, true, false, false, false, false, false, false, false, false, false, false, false] rfl rfl (any_of HT_.out (by kernel_rfl)) (fun _ _ _ h => h) (Or.inr ⟨by rfl, rfl⟩) ?_ ?_
        rotate_left
        ·simp only [Act.put, List.setIfInBounds_toArray, List.set_cons_zero, List.set_cons_succ, i64_w, i32_w]
         rfl
        refine pure_ (i := 22) (N := some 99) (v := undef) (a' := ?_) #[true, true, true, true, true, true, true, true, true, true, true, true, true, true, true, true, true, true, true, true, true, true, true, false, false, false, false, false, false, false, false, false, false] rfl rfl (any_of HT_.out (by kernel_rfl)) (fun _ _ _ h => h) (Or.inr ⟨by rfl, rfl⟩) ?_ ?_
        rotate_left
        ·simp only [Act.put, List.setIfInBounds_toArray, List.set_cons_zero, List.set_cons_succ, i64_w, i32_w]
         rfl
        refine pure_ (i := 23) (N := some 100) (v := ?_) (a' := ?_) #[true, true, true, true, true, true, true, true, true, true, true, true, true, true, true, true, true, true, true, true, true, true, true, true, false, false, false, false, false, false, false, false, false] rfl rfl (any_of HT_.out (by kernel_rfl)) (fun _ _ _ h => h) (Or.inl ⟨by rfl, ?_⟩) ?_ ?_
        rotate_left
        ·intro w'
         go_simp
         with_reducible rfl
        rotate_left
        ·simp only [Act.put, List.setIfInBounds_toArray, List.set_cons_zero, List.set_cons_succ, i64_w, i32_w]
         rfl
        refine pure_ (i := 24) (N := some 101) (v := ?_) (a' := ?_) #[true, true, true, true, true, true, true, true, true, true, true, true, true, true, true, true, true, true, true, true, true, true, true, true, true, false, false, false, false, false, false, false, false] rfl rfl (any_of HT_.out (by kernel_rfl)) (fun _ _ _ h => h) (Or.inl ⟨by rfl, ?_⟩) ?_ ?_
        rotate_left
        ·intro w'
         go_simp
         with_reducible rfl
        rotate_left
        ·simp only [Act.put, List.setIfInBounds_toArray, List.set_cons_zero, List.set_cons_succ, i64_w, i32_w]
         rfl
        refine pure_ (i := 25) (N := some 102) (v := undef) (a' := ?_) #[true, true, true, true, true, true, true, true, true, true, true, true, true, true, true, true, true, true, true, true, true, true, true, true, true, true, false, false, false, false, false, false, false] rfl rfl (any_of HT_.out (by kernel_rfl)) (fun _ _ _ h => h) (Or.inr ⟨by rfl, rfl⟩) ?_ ?_
        rotate_left
        ·simp only [Act.put, List.setIfInBounds_toArray, List.set_cons_zero, List.set_cons_succ, i64_w, i32_w]
         rfl
        refine pure_ (i := 26) (N := some 103) (v := undef) (a' := ?_) #[true, true, true, true, true, true, true, true, true, true, true, true, true, true, true, true, true, true, true, true, true, true, true, true, true, true, true, false, false, false, false, false, false] rfl rfl (any_of HT_.out (by kernel_rfl)) (fun _ _ _ h => h) (Or.inr ⟨by rfl, rfl⟩) ?_ ?_
        rotate_left
        ·simp only [Act.put, List.setIfInBounds_toArray, List.set_cons_zero, List.set_cons_succ, i64_w, i32_w]
         rfl
        refine pure_ (i := 27) (N := some 104) (v := undef) (a' := ?_) #[true, true, true, true, true, true, true, true, true, true, true, true, true, true, true, true, true, true, true, true, true, true, true, true, true, true, true, true, false, false, false, false, false] rfl rfl (any_of HT_.out (by kernel_rfl)) (fun _ _ _ h => h) (Or.inr ⟨by rfl, rfl⟩) ?_ ?_
        rotate_left
        ·simp only [Act.put, List.setIfInBounds_toArray, List.set_cons_zero, List.set_cons_succ, i64_w, i32_w]
         rfl
        refine pure_ (i := 28) (N := some 105) (v := undef) (a' := ?_) #[true, true, true, true, true, true, true, true, true, true, true, true, true, true, true, true, true, true, true, true, true, true, true, true, true, true, true, true, true, false, false, false, false] rfl rfl (any_of HT_.out (by kernel_rfl)) (fun _ _ _ h => h) (Or.inr ⟨by rfl, rfl⟩) ?_ ?_
        rotate_left
        ·simp only [Act.put, List.setIfInBounds_toArray, List.set_cons_zero, List.set_cons_succ, i64_w, i32_w]
         rfl
        refine pure_ (i := 29) (N := some 106) (v := undef) (a' := ?_) #[true, true, true, true, true, true, true, true, true, true, true, true, true, true, true, true, true, true, true, true, true, true, true, true, true, true, true, true, true, true, false, false, false] rfl rfl (any_of HT_.out (by kernel_rfl)) (fun _ _ _ h => h) (Or.inr ⟨by rfl, rfl⟩) ?_ ?_
        rotate_left
        ·simp only [Act.put, List.setIfInBounds_toArray, List.set_cons_zero, List.set_cons_succ, i64_w, i32_w]
         rfl
        refine pure_ (i := 30) (N := some 107) (v := undef) (a' := ?_) #[true, true, true, true, true, true, true, true, true, true, true, true, true, true, true, true, true, true, true, true, true, true, true, true, true, true, true, true, true, true, true, false, false] rfl rfl (any_of HT_.out (by kernel_rfl)) (fun _ _ _ h => h) (Or.inr ⟨by rfl, rfl⟩) ?_ ?_
        rotate_left
        ·simp only [Act.put, List.setIfInBounds_toArray, List.set_cons_zero, List.set_cons_succ, i64_w, i32_w]
         rfl
        refine pure_ (i := 31) (N := some 108) (v := undef) (a' := ?_) #[true, true, true, true, true, true, true, true, true, true, true, true, true, true, true, true, true, true, true, true, true, true, true, true, true, true, true, true, true, true, true, true, false] rfl rfl (any_of HT_.out (by kernel_rfl)) (fun _ _ _ h => h) (Or.inr ⟨by rfl, rfl⟩) ?_ ?_
        rotate_left
        ·simp only [Act.put, List.setIfInBounds_toArray, List.set_cons_zero, List.set_cons_succ, i64_w, i32_w]
         rfl
        refine pure_ (i := 32) (N := some 109) (v := ?_) (a' := ?_) #[true, true, true, true, true, true, true, true, true, true, true, true, true, true, true, true, true, true, true, true, true, true, true, true, true, true, true, true, true, true, true, true, true] rfl rfl (any_of HT_.out (by kernel_rfl)) (fun _ _ _ h => h) (Or.inl ⟨by rfl, ?_⟩) ?_ ?_
        rotate_left
        ·intro w'
         go_simp
         with_reducible rfl
        rotate_left
        ·simp only [Act.put, List.setIfInBounds_toArray, List.set_cons_zero, List.set_cons_succ, i64_w, i32_w]
         rfl
        refine done_ (done_of HT_.out (by kernel_rfl)) ?_
        try go_wp2
        go_meet
        case rel => exact ⟨_, (true), (by first | rfl | (simp; done) | (simp [*]; done)), H', ⟨by first | omega | exact Nat.le_refl _⟩, ⟨by (with_reducible repeat (first | refine blk_drewN ?_ _ | refine blk_drew ?_ | refine blk_alloc ?_ _)); exact BK389.out⟩, ⟨by (with_reducible repeat (first | refine blk_drewN ?_ _ | refine blk_drew ?_ | refine blk_alloc ?_ _)); exact BK409.out⟩, ⟨by (with_reducible repeat (first | refine blk_drewN ?_ _ | refine blk_drew ?_ | refine blk_alloc ?_ _)); exact BK413.out⟩, ⟨by repeat (first | (with_reducible first | exact HB.out | apply below_alloc | apply pw_below_drewN | apply below_drew1 | refine below_set ?_ GE389.out | refine below_set ?_ GE409.out | refine below_set ?_ GE413.out) | exact HB.out)⟩⟩
      ·replace c53 := Bool.eq_false_iff.mpr c53
       subst c53
       have H1 : (laws_FnHalves.j0 k t397 true t387 t388 t406 t407 t410 t411) = some r := by rw [if_neg (show ¬ (false = true) by decide)] at H; exact H
       clear H
       have H := H1
       clear H1
       have H' := Aside0.mk H
       clear H
       try go_wp2
       have n0_ : Aside0 (((w48.setCell ⟨gb413, 0, none⟩ (.int .i64 t410)).setCell ⟨gb413, 1, none⟩ (.string t411)).heap[gb389]? = some (.cells #[.int .i64 t387, .string t388] 26 (0, 0))) := ⟨by (with_reducible repeat (first | refine blk_drewN ?_ _ | refine blk_drew ?_ | refine blk_alloc ?_ _)); refine blk_far ?_ NB389_413.out _; (with_reducible repeat (first | refine blk_drewN ?_ _ | refine blk_drew ?_ | refine blk_alloc ?_ _)); refine blk_far ?_ NB389_413.out _; (with_reducible repeat (first | refine blk_drewN ?_ _ | refine blk_drew ?_ | refine blk_alloc ?_ _)); exact BK389.out⟩
       have n1_ : Aside0 (((w48.setCell ⟨gb413, 0, none⟩ (.int .i64 t410)).setCell ⟨gb413, 1, none⟩ (.string t411)).heap[gb409]? = some (.cells #[.int .i64 t406, .string t407] 26 (0, 0))) := ⟨by (with_reducible repeat (first | refine blk_drewN ?_ _ | refine blk_drew ?_ | refine blk_alloc ?_ _)); refine blk_far ?_ NB409_413.out _; (with_reducible repeat (first | refine blk_drewN ?_ _ | refine blk_drew ?_ | refine blk_alloc ?_ _)); refine blk_far ?_ NB409_413.out _; (with_reducible repeat (first | refine blk_drewN ?_ _ | refine blk_drew ?_ | refine blk_alloc ?_ _)); exact BK409.out⟩
       have n2_ : Aside0 (((w48.setCell ⟨gb413, 0, none⟩ (.int .i64 t410)).setCell ⟨gb413, 1, none⟩ (.string t411)).heap[gb413]? = some (.cells #[.int .i64 t410, .string t411] 26 (0, 0))) := ⟨by (with_reducible repeat (first | refine blk_drewN ?_ _ | refine blk_drew ?_ | refine blk_alloc ?_ _)); refine blk_put (cs := #[.int .i64 t410, .string (⟨#[]⟩ : ByteArray)]) ?_ 1 _ rfl; (with_reducible repeat (first | refine blk_drewN ?_ _ | refine blk_drew ?_ | refine blk_alloc ?_ _)); refine blk_put (cs := #[.int .i64 0, .string (⟨#[]⟩ : ByteArray)]) ?_ 0 _ rfl; (with_reducible repeat (first | refine blk_drewN ?_ _ | refine blk_drew ?_ | refine blk_alloc ?_ _)); exact BK413.out⟩
       have n3_ : Aside0 (Below w.heap.size w ((w48.setCell ⟨gb413, 0, none⟩ (.int .i64 t410)).setCell ⟨gb413, 1, none⟩ (.string t411))) := ⟨by repeat (first | (with_reducible first | exact HB.out | apply below_alloc | apply pw_below_drewN | apply below_drew1 | refine below_set ?_ GE389.out | refine below_set ?_ GE409.out | refine below_set ?_ GE413.out) | exact HB.out)⟩
       (try clear BK389)
       (try clear BK409)
       (try clear BK413)
       (try clear HB)
       generalize ((w48.setCell ⟨gb413, 0, none⟩ (.int .i64 t410)).setCell ⟨gb413, 1, none⟩ (.string t411)) = w67 at n0_ n1_ n2_ n3_ ⊢
       have BK389 := n0_
       have BK409 := n1_
       have BK413 := n2_
       have HB := n3_
       clear n0_ n1_ n2_ n3_
       have n0_ := Aside0.mk (blk_drew BK389.out)
       have n1_ := Aside0.mk (blk_drew BK409.out)
       have n2_ := Aside0.mk (blk_drew BK413.out)
       have n3_ := Aside0.mk (below_drew1 HB.out)
       clear BK389
       clear BK409
       clear BK413
       clear HB
       have BK389 := n0_
       have BK409 := n1_
       have BK413 := n2_
       have HB := n3_
       clear n0_ n1_ n2_ n3_
       refine start_ (n := 33) (S := fun w' => True) (ds := []) #[false, false, false, false, false, false, false, false, false, false, false, false, false, false, false, false, false, false, false, false, false, false, false, false, false, false, false, false, false, false, false, false, false] (by kernel_rfl) rfl rfl trivial (fun hHeld => ?_); refine with_tabW laws_FnHalves.tab13 laws_FnHalves.bits13 (fun HT_ HW_ => ?_)
       generalize w67.drew = w68 at BK389 BK409 BK413 HB hHeld ⊢
       refine pure_ (i := 0) (N := some 77) (v := ?_) (a' := ?_) #[true, false, false, false, false, false, false, false, false, false, false, false, false, false, false, false, false, false, false, false, false, false, false, false, false, false, false, false, false, false, false, false, false] rfl rfl (any_of HT_.out (by kernel_rfl)) (fun _ _ _ h => h) (Or.inl ⟨by rfl, ?_⟩) ?_ ?_
       rotate_left
       ·intro w'
        go_simp
        with_reducible rfl
       rotate_left
       ·simp only [Act.put, List.setIfInBounds_toArray, List.set_cons_zero, List.set_cons_succ, i64_w, i32_w]
        rfl
       refine pure_ (i := 1) (N := some 78) (v := ?_) (a' := ?_) #[true, true, false, false, false, false, false, false, false, false, false, false, false, false, false, false, false, false, false, false, false, false, false, false, false, false, false, false, false, false, false, false, false] rfl rfl (any_of HT_.out (by kernel_rfl)) (fun _ _ _ h => h) (Or.inl ⟨by rfl, ?_⟩) ?_ ?_
       rotate_left
       ·intro w'
        go_simp
        with_reducible rfl
       rotate_left
       ·simp only [Act.put, List.setIfInBounds_toArray, List.set_cons_zero, List.set_cons_succ, i64_w, i32_w]
        rfl
       refine pure_ (i := 2) (N := some 79) (v := ?_) (a' := ?_) #[true, true, true, false, false, false, false, false, false, false, false, false, false, false, false, false, false, false, false, false, false, false, false, false, false, false, false, false, false, false, false, false, false] rfl rfl (any_of HT_.out (by kernel_rfl)) (fun _ _ _ h => h) (Or.inl ⟨by rfl, ?_⟩) ?_ ?_
       rotate_left
       ·intro w'
        go_simp
        with_reducible rfl
       rotate_left
       ·simp only [Act.put, List.setIfInBounds_toArray, List.set_cons_zero, List.set_cons_succ, i64_w, i32_w]
        rfl
       refine pure_ (i := 3) (N := some 80) (v := ?_) (a' := ?_) #[true, true, true, true, false, false, false, false, false, false, false, false, false, false, false, false, false, false, false, false, false, false, false, false, false, false, false, false, false, false, false, false, false] rfl rfl (any_of HT_.out (by kernel_rfl)) (fun _ _ _ h => h) (Or.inl ⟨by rfl, ?_⟩) ?_ ?_
       rotate_left
       ·intro w'
        go_simp
        with_reducible rfl
       rotate_left
       ·simp only [Act.put, List.setIfInBounds_toArray, List.set_cons_zero, List.set_cons_succ, i64_w, i32_w]
        rfl
       refine pure_ (i := 4) (N := some 81) (v := ?_) (a' := ?_) #[true, true, true, true, true, false, false, false, false, false, false, false, false, false, false, false, false, false, false, false, false, false, false, false, false, false, false, false, false, false, false, false, false] rfl rfl (any_of HT_.out (by kernel_rfl)) (fun _ _ _ h => h) (Or.inl ⟨by rfl, ?_⟩) ?_ ?_
       rotate_left
       ·intro w'
        go_simp
        with_reducible rfl
       rotate_left
       ·simp only [Act.put, List.setIfInBounds_toArray, List.set_cons_zero, List.set_cons_succ, i64_w, i32_w]
        rfl
       refine pure_ (i := 5) (N := some 82) (v := ?_) (a' := ?_) #[true, true, true, true, true, true, false, false, false, false, false, false, false, false, false, false, false, false, false, false, false, false, false, false, false, false, false, false, false, false, false, false, false] rfl rfl (any_of HT_.out (by kernel_rfl)) (fun _ _ _ h => h) (Or.inl ⟨by rfl, ?_⟩) ?_ ?_
       rotate_left
       ·intro w'
        go_simp
        with_reducible rfl
       rotate_left
       ·simp only [Act.put, List.setIfInBounds_toArray, List.set_cons_zero, List.set_cons_succ, i64_w, i32_w]
        rfl
       refine pure_ (i := 6) (N := some 83) (v := ?_) (a' := ?_) #[true, true, true, true, true, true, true, false, false, false, false, false, false, false, false, false, false, false, false, false, false, false, false, false, false, false, false, false, false, false, false, false, false] rfl rfl (any_of HT_.out (by kernel_rfl)) (fun _ _ _ h => h) (Or.inl ⟨by rfl, ?_⟩) ?_ ?_
       rotate_left
       ·intro w'
        go_simp
        with_reducible rfl
       rotate_left
       ·simp only [Act.put, List.setIfInBounds_toArray, List.set_cons_zero, List.set_cons_succ, i64_w, i32_w]
        rfl
       refine pure_ (i := 7) (N := some 84) (v := undef) (a' := ?_) #[true, true, true, true, true, true, true, true, false, false, false, false, false, false, false, false, false, false, false, false, false, false, false, false, false, false, false, false, false, false, false, false, false] rfl rfl (any_of HT_.out (by kernel_rfl)) (fun _ _ _ h => h) (Or.inr ⟨by rfl, rfl⟩) ?_ ?_
       rotate_left
       ·simp only [Act.put, List.setIfInBounds_toArray, List.set_cons_zero, List.set_cons_succ, i64_w, i32_w]
        rfl
       refine pure_ (i := 8) (N := some 85) (v := undef) (a' := ?_) #[true, true, true, true, true, true, true, true, true, false, false, false, false, false, false, false, false, false, false, false, false, false, false, false, false, false, false, false, false, false, false, false, false] rfl rfl (any_of HT_.out (by kernel_rfl)) (fun _ _ _ h => h) (Or.inr ⟨by rfl, rfl⟩) ?_ ?_
       rotate_left
       ·simp only [Act.put, List.setIfInBounds_toArray, List.set_cons_zero, List.set_cons_succ, i64_w, i32_w]
        rfl
       refine pure_ (i := 9) (N := some 86) (v := undef) (a' := ?_) #[true, true, true, true, true, true, true, true, true, true, false, false, false, false, false, false, false, false, false, false, false, false, false, false, false, false, false, false, false, false, false, false, false] rfl rfl (any_of HT_.out (by kernel_rfl)) (fun _ _ _ h => h) (Or.inr ⟨by rfl, rfl⟩) ?_ ?_
       rotate_left
       ·simp only [Act.put, List.setIfInBounds_toArray, List.set_cons_zero, List.set_cons_succ, i64_w, i32_w]
        rfl
       refine pure_ (i := 10) (N := some 87) (v := undef) (a' := ?_) #[true, true, true, true, true, true, true, true, true, true, true, false, false, false, false, false, false, false, false, false, false, false, false, false, false, false, false, false, false, false, false, false, false] rfl rfl (any_of HT_.out (by kernel_rfl)) (fun _ _ _ h => h) (Or.inr ⟨by rfl, rfl⟩) ?_ ?_
       rotate_left
       ·simp only [Act.put, List.setIfInBounds_toArray, List.set_cons_zero, List.set_cons_succ, i64_w, i32_w]
        rfl
       refine pure_ (i := 11) (N := some 88) (v := undef) (a' := ?_) #[true, true, true, true, true, true, true, true, true, true, true, true, false, false, false, false, false, false, false, false, false, false, false, false, false, false, false, false, false, false, false, false, false] rfl rfl (any_of HT_.out (by kernel_rfl)) (fun _ _ _ h => h) (Or.inr ⟨by rfl, rfl⟩) ?_ ?_
       rotate_left
       ·simp only [Act.put, List.setIfInBounds_toArray, List.set_cons_zero, List.set_cons_succ, i64_w, i32_w]
        rfl
       refine pure_ (i := 12) (N := some 89) (v := undef) (a' := ?_) #[true, true, true, true, true, true, true, true, true, true, true, true, true, false, false, false, false, false, false, false, false, false, false, false, false, false, false, false, false, false, false, false, false] rfl rfl (any_of HT_.out (by kernel_rfl)) (fun _ _ _ h => h) (Or.inr ⟨by rfl, rfl⟩) ?_ ?_
       rotate_left
       ·simp only [Act.put, List.setIfInBounds_toArray, List.set_cons_zero, List.set_cons_succ, i64_w, i32_w]
        rfl
       refine pure_ (i := 13) (N := some 90) (v := ?_) (a' := ?_) #[true, true, true, true, true, true, true, true, true, true, true, true, true, true, false, false, false, false, false, false, false, false, false, false, false, false, false, false, false, false, false, false, false] rfl rfl (any_of HT_.out (by kernel_rfl)) (fun _ _ _ h => h) (Or.inl ⟨by rfl, ?_⟩) ?_ ?_
       rotate_left
       ·intro w'
        go_simp
        with_reducible rfl
       rotate_left
       ·simp only [Act.put, List.setIfInBounds_toArray, List.set_cons_zero, List.set_cons_succ, i64_w, i32_w]
        rfl
       refine pure_ (i := 14) (N := some 91) (v := ?_) (a' := ?_) #[true, true, true, true, true, true, true, true, true, true, true, true, true, true, true, false, false, false, false, false, false, false, false, false, false, false, false, false, false, false, false, false, false] rfl rfl (any_of HT_.out (by kernel_rfl)) (fun _ _ _ h => h) (Or.inl ⟨by rfl, ?_⟩) ?_ ?_
       rotate_left
       ·intro w'
        go_simp
        with_reducible rfl
       rotate_left
       ·simp only [Act.put, List.setIfInBounds_toArray, List.set_cons_zero, List.set_cons_succ, i64_w, i32_w]
        rfl
       refine pure_ (i := 15) (N := some 92) (v := undef) (a' := ?_) #[true, true, true, true, true, true, true, true, true, true, true, true, true, true, true, true, false, false, false, false, false, false, false, false, false, false, false, false, false, false, false, false, false] rfl rfl (any_of HT_.out (by kernel_rfl)) (fun _ _ _ h => h) (Or.inr ⟨by rfl, rfl⟩) ?_ ?_
       rotate_left
       ·simp only [Act.put, List.setIfInBounds_toArray, List.set_cons_zero, List.set_cons_succ, i64_w, i32_w]
        rfl
       refine pure_ (i := 16) (N := some 93) (v := undef) (a' := ?_) #[true, true, true, true, true, true, true, true, true, true, true, true, true, true, true, true, true, false, false, false, false, false, false, false, false, false, false, false, false, false, false, false, false] rfl rfl (any_of HT_.out (by kernel_rfl)) (fun _ _ _ h => h) (Or.inr ⟨by rfl, rfl⟩) ?_ ?_
       rotate_left
       ·simp only [Act.put, List.setIfInBounds_toArray, List.set_cons_zero, List.set_cons_succ, i64_w, i32_w]
        rfl
       refine pure_ (i := 17) (N := some 94) (v := undef) (a' := ?_) #[true, true, true, true, true, true, true, true, true, true, true, true, true, true, true, true, true, true, false, false, false, false, false, false, false, false, false, false, false, false, false, false, false] rfl rfl (any_of HT_.out (by kernel_rfl)) (fun _ _ _ h => h) (Or.inr ⟨by rfl, rfl⟩) ?_ ?_
       rotate_left
       ·simp only [Act.put, List.setIfInBounds_toArray, List.set_cons_zero, List.set_cons_succ, i64_w, i32_w]
        rfl
       refine pure_ (i := 18) (N := some 95) (v := undef) (a' := ?_) #[true, true, true, true, true, true, true, true, true, true, true, true, true, true, true, true, true, true, true, false, false, false, false, false, false, false, false, false, false, false, false, false, false] rfl rfl (any_of HT_.out (by kernel_rfl)) (fun _ _ _ h => h) (Or.inr ⟨by rfl, rfl⟩) ?_ ?_
       rotate_left
       ·simp only [Act.put, List.setIfInBounds_toArray, List.set_cons_zero, List.set_cons_succ, i64_w, i32_w]
        rfl
       refine pure_ (i := 19) (N := some 96) (v := undef) (a' := ?_) #[true, true, true, true, true, true, true, true, true, true, true, true, true, true, true, true, true, true, true, true, false, false, false, false, false, false, false, false, false, false, false, false, false] rfl rfl (any_of HT_.out (by kernel_rfl)) (fun _ _ _ h => h) (Or.inr ⟨by rfl, rfl⟩) ?_ ?_
       rotate_left
       ·simp only [Act.put, List.setIfInBounds_toArray, List.set_cons_zero, List.set_cons_succ, i64_w, i32_w]
        rfl
       refine pure_ (i := 20) (N := some 97) (v := undef) (a' := ?_) #[true, true, true, true, true, true, true, true, true, true, true, true, true, true, true, true, true, true, true, true, true, false, false, false, false, false, false, false, false, false, false, false, false] rfl rfl (any_of HT_.out (by kernel_rfl)) (fun _ _ _ h => h) (Or.inr ⟨by rfl, rfl⟩) ?_ ?_
       rotate_left
       ·simp only [Act.put, List.setIfInBounds_toArray, List.set_cons_zero, List.set_cons_succ, i64_w, i32_w]
        rfl
       refine pure_ (i := 21) (N := some 98) (v := undef) (a' := ?_) #[true, true, true, true, true, true, true, true, true, true, true, true, true, true, true, true, true, true, true, true, true, true, false, false, false, false, false, false, false, false, false, false, false] rfl rfl (any_of HT_.out (by kernel_rfl)) (fun _ _ _ h => h) (Or.inr ⟨by rfl, rfl⟩) ?_ ?_
       rotate_left
       ·simp only [Act.put, List.setIfInBounds_toArray, List.set_cons_zero, List.set_cons_succ, i64_w, i32_w]
        rfl
       refine pure_ (i := 22) (N := some 99) (v := undef) (a' := ?_) #[true, true, true, true, true, true, true, true, true, true, true, true, true, true, true, true, true, true, true, true, true, true, true, false, false, false, false, false, false, false, false, false, false] rfl rfl (any_of HT_.out (by kernel_rfl)) (fun _ _ _ h => h) (Or.inr ⟨by rfl, rfl⟩) ?_ ?_
       rotate_left
       ·simp only [Act.put, List.setIfInBounds_toArray, List.set_cons_zero, List.set_cons_succ, i64_w, i32_w]
        rfl
       refine pure_ (i := 23) (N := some 100) (v := ?_) (a' := ?_) #[true, true, true, true, true, true, true, true, true, true, true, true, true, true, true, true, true, true, true, true, true, true, true, true, false, false, false, false, false, false, false, false, false] rfl rfl (any_of HT_.out (by kernel_rfl)) (fun _ _ _ h => h) (Or.inl ⟨by rfl, ?_⟩) ?_ ?_
       rotate_left
       ·intro w'
        go_simp
        with_reducible rfl
       rotate_left
       ·simp only [Act.put, List.setIfInBounds_toArray, List.set_cons_zero, List.set_cons_succ, i64_w, i32_w]
        rfl
       refine pure_ (i := 24) (N := some 101) (v := ?_) (a' := ?_) #[true, true, true, true, true, true, true, true, true, true, true, true, true, true, true, true, true, true, true, true, true, true, true, true, true, false, false, false, false, false, false, false, false] rfl rfl (any_of HT_.out (by kernel_rfl)) (fun _ _ _ h => h) (Or.inl ⟨by rfl, ?_⟩) ?_ ?_
       rotate_left
       ·intro w'
        go_simp
        with_reducible rfl
       rotate_left
       ·simp only [Act.put, List.setIfInBounds_toArray, List.set_cons_zero, List.set_cons_succ, i64_w, i32_w]
        rfl
       refine pure_ (i := 25) (N := some 102) (v := undef) (a' := ?_) #[true, true, true, true, true, true, true, true, true, true, true, true, true, true, true, true, true, true, true, true, true, true, true, true, true, true, false, false, false, false, false, false, false] rfl rfl (any_of HT_.out (by kernel_rfl)) (fun _ _ _ h => h) (Or.inr ⟨by rfl, rfl⟩) ?_ ?_
       rotate_left
       ·simp only [Act.put, List.setIfInBounds_toArray, List.set_cons_zero, List.set_cons_succ, i64_w, i32_w]
        rfl
       refine pure_ (i := 26) (N := some 103) (v := undef) (a' := ?_) #[true, true, true, true, true, true, true, true, true, true, true, true, true, true, true, true, true, true, true, true, true, true, true, true, true, true, true, false, false, false, false, false, false] rfl rfl (any_of HT_.out (by kernel_rfl)) (fun _ _ _ h => h) (Or.inr ⟨by rfl, rfl⟩) ?_ ?_
       rotate_left
       ·simp only [Act.put, List.setIfInBounds_toArray, List.set_cons_zero, List.set_cons_succ, i64_w, i32_w]
        rfl
       refine pure_ (i := 27) (N := some 104) (v := undef) (a' := ?_) #[true, true, true, true, true, true, true, true, true, true, true, true, true, true, true, true, true, true, true, true, true, true, true, true, true, true, true, true, false, false, false, false, false] rfl rfl (any_of HT_.out (by kernel_rfl)) (fun _ _ _ h => h) (Or.inr ⟨by rfl, rfl⟩) ?_ ?_
       rotate_left
       ·simp only [Act.put, List.setIfInBounds_toArray, List.set_cons_zero, List.set_cons_succ, i64_w, i32_w]
        rfl
       refine pure_ (i := 28) (N := some 105) (v := undef) (a' := ?_) #[true, true, true, true, true, true, true, true, true, true, true, true, true, true, true, true, true, true, true, true, true, true, true, true, true, true, true, true, true, false, false, false, false] rfl rfl (any_of HT_.out (by kernel_rfl)) (fun _ _ _ h => h) (Or.inr ⟨by rfl, rfl⟩) ?_ ?_
       rotate_left
       ·simp only [Act.put, List.setIfInBounds_toArray, List.set_cons_zero, List.set_cons_succ, i64_w, i32_w]
        rfl
       refine pure_ (i := 29) (N := some 106) (v := undef) (a' := ?_) #[true, true, true, true, true, true, true, true, true, true, true, true, true, true, true, true, true, true, true, true, true, true, true, true, true, true, true, true, true, true, false, false, false] rfl rfl (any_of HT_.out (by kernel_rfl)) (fun _ _ _ h => h) (Or.inr ⟨by rfl, rfl⟩) ?_ ?_
       rotate_left
       ·simp only [Act.put, List.setIfInBounds_toArray, List.set_cons_zero, List.set_cons_succ, i64_w, i32_w]
        rfl
       refine pure_ (i := 30) (N := some 107) (v := undef) (a' := ?_) #[true, true, true, true, true, true, true, true, true, true, true, true, true, true, true, true, true, true, true, true, true, true, true, true, true, true, true, true, true, true, true, false, false] rfl rfl (any_of HT_.out (by kernel_rfl)) (fun _ _ _ h => h) (Or.inr ⟨by rfl, rfl⟩) ?_ ?_
       rotate_left
       ·simp only [Act.put, List.setIfInBounds_toArray, List.set_cons_zero, List.set_cons_succ, i64_w, i32_w]
        rfl
       refine pure_ (i := 31) (N := some 108) (v := undef) (a' := ?_) #[true, true, true, true, true, true, true, true, true, true, true, true, true, true, true, true, true, true, true, true, true, true, true, true, true, true, true, true, true, true, true, true, false] rfl rfl (any_of HT_.out (by kernel_rfl)) (fun _ _ _ h => h) (Or.inr ⟨by rfl, rfl⟩) ?_ ?_
       rotate_left
       ·simp only [Act.put, List.setIfInBounds_toArray, List.set_cons_zero, List.set_cons_succ, i64_w, i32_w]
        rfl
       refine pure_ (i := 32) (N := some 109) (v := ?_) (a' := ?_) #[true, true, true, true, true, true, true, true, true, true, true, true, true, true, true, true, true, true, true, true, true, true, true, true, true, true, true, true, true, true, true, true, true] rfl rfl (any_of HT_.out (by kernel_rfl)) (fun _ _ _ h => h) (Or.inl ⟨by rfl, ?_⟩) ?_ ?_
       rotate_left
       ·intro w'
        go_simp
        with_reducible rfl
       rotate_left
       ·simp only [Act.put, List.setIfInBounds_toArray, List.set_cons_zero, List.set_cons_succ, i64_w, i32_w]
        rfl
       refine done_ (done_of HT_.out (by kernel_rfl)) ?_
       try go_wp2
       go_meet
       case rel => exact ⟨_, (true), (by first | rfl | (simp; done) | (simp [*]; done)), H', ⟨by first | omega | exact Nat.le_refl _⟩, ⟨by (with_reducible repeat (first | refine blk_drewN ?_ _ | refine blk_drew ?_ | refine blk_alloc ?_ _)); exact BK389.out⟩, ⟨by (with_reducible repeat (first | refine blk_drewN ?_ _ | refine blk_drew ?_ | refine blk_alloc ?_ _)); exact BK409.out⟩, ⟨by (with_reducible repeat (first | refine blk_drewN ?_ _ | refine blk_drew ?_ | refine blk_alloc ?_ _)); exact BK413.out⟩, ⟨by repeat (first | (with_reducible first | exact HB.out | apply below_alloc | apply pw_below_drewN | apply below_drew1 | refine below_set ?_ GE389.out | refine below_set ?_ GE409.out | refine below_set ?_ GE413.out) | exact HB.out)⟩⟩
     ·replace c52 := Bool.eq_false_iff.mpr c52
      subst c52
      have H1 : (laws_FnHalves.j0 k t397 true t387 t388 t406 t407 t410 t411) = some r := by rw [if_neg (show ¬ (false = true) by decide)] at H; exact H
      clear H
      have H := H1
      clear H1
      have H' := Aside0.mk H
      clear H
      try go_wp2
      have n0_ : Aside0 (((w48.setCell ⟨gb413, 0, none⟩ (.int .i64 t410)).setCell ⟨gb413, 1, none⟩ (.string t411)).heap[gb389]? = some (.cells #[.int .i64 t387, .string t388] 26 (0, 0))) := ⟨by (with_reducible repeat (first | refine blk_drewN ?_ _ | refine blk_drew ?_ | refine blk_alloc ?_ _)); refine blk_far ?_ NB389_413.out _; (with_reducible repeat (first | refine blk_drewN ?_ _ | refine blk_drew ?_ | refine blk_alloc ?_ _)); refine blk_far ?_ NB389_413.out _; (with_reducible repeat (first | refine blk_drewN ?_ _ | refine blk_drew ?_ | refine blk_alloc ?_ _)); exact BK389.out⟩
      have n1_ : Aside0 (((w48.setCell ⟨gb413, 0, none⟩ (.int .i64 t410)).setCell ⟨gb413, 1, none⟩ (.string t411)).heap[gb409]? = some (.cells #[.int .i64 t406, .string t407] 26 (0, 0))) := ⟨by (with_reducible repeat (first | refine blk_drewN ?_ _ | refine blk_drew ?_ | refine blk_alloc ?_ _)); refine blk_far ?_ NB409_413.out _; (with_reducible repeat (first | refine blk_drewN ?_ _ | refine blk_drew ?_ | refine blk_alloc ?_ _)); refine blk_far ?_ NB409_413.out _; (with_reducible repeat (first | refine blk_drewN ?_ _ | refine blk_drew ?_ | refine blk_alloc ?_ _)); exact BK409.out⟩
      have n2_ : Aside0 (((w48.setCell ⟨gb413, 0, none⟩ (.int .i64 t410)).setCell ⟨gb413, 1, none⟩ (.string t411)).heap[gb413]? = some (.cells #[.int .i64 t410, .string t411] 26 (0, 0))) := ⟨by (with_reducible repeat (first | refine blk_drewN ?_ _ | refine blk_drew ?_ | refine blk_alloc ?_ _)); refine blk_put (cs := #[.int .i64 t410, .string (⟨#[]⟩ : ByteArray)]) ?_ 1 _ rfl; (with_reducible repeat (first | refine blk_drewN ?_ _ | refine blk_drew ?_ | refine blk_alloc ?_ _)); refine blk_put (cs := #[.int .i64 0, .string (⟨#[]⟩ : ByteArray)]) ?_ 0 _ rfl; (with_reducible repeat (first | refine blk_drewN ?_ _ | refine blk_drew ?_ | refine blk_alloc ?_ _)); exact BK413.out⟩
      have n3_ : Aside0 (Below w.heap.size w ((w48.setCell ⟨gb413, 0, none⟩ (.int .i64 t410)).setCell ⟨gb413, 1, none⟩ (.string t411))) := ⟨by repeat (first | (with_reducible first | exact HB.out | apply below_alloc | apply pw_below_drewN | apply below_drew1 | refine below_set ?_ GE389.out | refine below_set ?_ GE409.out | refine below_set ?_ GE413.out) | exact HB.out)⟩
      (try clear BK389)
      (try clear BK409)
      (try clear BK413)
      (try clear HB)
      generalize ((w48.setCell ⟨gb413, 0, none⟩ (.int .i64 t410)).setCell ⟨gb413, 1, none⟩ (.string t411)) = w69 at n0_ n1_ n2_ n3_ ⊢
      have BK389 := n0_
      have BK409 := n1_
      have BK413 := n2_
      have HB := n3_
      clear n0_ n1_ n2_ n3_
      have n0_ := Aside0.mk (blk_drew BK389.out)
      have n1_ := Aside0.mk (blk_drew BK409.out)
      have n2_ := Aside0.mk (blk_drew BK413.out)
      have n3_ := Aside0.mk (below_drew1 HB.out)
      clear BK389
      clear BK409
      clear BK413
      clear HB
      have BK389 := n0_
      have BK409 := n1_
      have BK413 := n2_
      have HB := n3_
      clear n0_ n1_ n2_ n3_
      refine start_ (n := 33) (S := fun w' => True) (ds := []) #[false, false, false, false, false, false, false, false, false, false, false, false, false, false, false, false, false, false, false, false, false, false, false, false, false, false, false, false, false, false, false, false, false] (by kernel_rfl) rfl rfl trivial (fun hHeld => ?_); refine with_tabW laws_FnHalves.tab13 laws_FnHalves.bits13 (fun HT_ HW_ => ?_)
      generalize w69.drew = w70 at BK389 BK409 BK413 HB hHeld ⊢
      refine pure_ (i := 0) (N := some 77) (v := ?_) (a' := ?_) #[true, false, false, false, false, false, false, false, false, false, false, false, false, false, false, false, false, false, false, false, false, false, false, false, false, false, false, false, false, false, false, false, false] rfl rfl (any_of HT_.out (by kernel_rfl)) (fun _ _ _ h => h) (Or.inl ⟨by rfl, ?_⟩) ?_ ?_
      rotate_left
      ·intro w'
       go_simp
       with_reducible rfl
      rotate_left
      ·simp only [Act.put, List.setIfInBounds_toArray, List.set_cons_zero, List.set_cons_succ, i64_w, i32_w]
       rfl
      refine pure_ (i := 1) (N := some 78) (v := ?_) (a' := ?_) #[true, true, false, false, false, false, false, false, false, false, false, false, false, false, false, false, false, false, false, false, false, false, false, false, false, false, false, false, false, false, false, false, false] rfl rfl (any_of HT_.out (by kernel_rfl)) (fun _ _ _ h => h) (Or.inl ⟨by rfl, ?_⟩) ?_ ?_
      rotate_left
      ·intro w'
       go_simp
       with_reducible rfl
      rotate_left
      ·simp only [Act.put, List.setIfInBounds_toArray, List.set_cons_zero, List.set_cons_succ, i64_w, i32_w]
       rfl
      refine pure_ (i := 2) (N := some 79) (v := ?_) (a' := ?_) #[true, true, true, false, false, false, false, false, false, false, false, false, false, false, false, false, false, false, false, false, false, false, false, false, false, false, false, false, false, false, false, false, false] rfl rfl (any_of HT_.out (by kernel_rfl)) (fun _ _ _ h => h) (Or.inl ⟨by rfl, ?_⟩) ?_ ?_
      rotate_left
      ·intro w'
       go_simp
       with_reducible rfl
      rotate_left
      ·simp only [Act.put, List.setIfInBounds_toArray, List.set_cons_zero, List.set_cons_succ, i64_w, i32_w]
       rfl
      refine pure_ (i := 3) (N := some 80) (v := undef) (a' := ?_) #[true, true, true, true, false, false, false, false, false, false, false, false, false, false, false, false, false, false, false, false, false, false, false, false, false, false, false, false, false, false, false, false, false] rfl rfl (any_of HT_.out (by kernel_rfl)) (fun _ _ _ h => h) (Or.inr ⟨by rfl, rfl⟩) ?_ ?_
      rotate_left
      ·simp only [Act.put, List.setIfInBounds_toArray, List.set_cons_zero, List.set_cons_succ, i64_w, i32_w]
       rfl
      refine pure_ (i := 4) (N := some 81) (v := undef) (a' := ?_) #[true, true, true, true, true, false, false, false, false, false, false, false, false, false, false, false, false, false, false, false, false, false, false, false, false, false, false, false, false, false, false, false, false] rfl rfl (any_of HT_.out (by kernel_rfl)) (fun _ _ _ h => h) (Or.inr ⟨by rfl, rfl⟩) ?_ ?_
      rotate_left
      ·simp only [Act.put, List.setIfInBounds_toArray, List.set_cons_zero, List.set_cons_succ, i64_w, i32_w]
       rfl
      refine pure_ (i := 5) (N := some 82) (v := ?_) (a' := ?_) #[true, true, true, true, true, true, false, false, false, false, false, false, false, false, false, false, false, false, false, false, false, false, false, false, false, false, false, false, false, false, false, false, false] rfl rfl (any_of HT_.out (by kernel_rfl)) (fun _ _ _ h => h) (Or.inl ⟨by rfl, ?_⟩) ?_ ?_
      rotate_left
      ·intro w'
       go_simp
       with_reducible rfl
      rotate_left
      ·simp only [Act.put, List.setIfInBounds_toArray, List.set_cons_zero, List.set_cons_succ, i64_w, i32_w]
       rfl
      refine pure_ (i := 6) (N := some 83) (v := ?_) (a' := ?_) #[true, true, true, true, true, true, true, false, false, false, false, false, false, false, false, false, false, false, false, false, false, false, false, false, false, false, false, false, false, false, false, false, false] rfl rfl (any_of HT_.out (by kernel_rfl)) (fun _ _ _ h => h) (Or.inl ⟨by rfl, ?_⟩) ?_ ?_
      rotate_left
      ·intro w'
       go_simp
       with_reducible rfl
      rotate_left
      ·simp only [Act.put, List.setIfInBounds_toArray, List.set_cons_zero, List.set_cons_succ, i64_w, i32_w]
       rfl
      refine pure_ (i := 7) (N := some 84) (v := undef) (a' := ?_) #[true, true, true, true, true, true, true, true, false, false, false, false, false, false, false, false, false, false, false, false, false, false, false, false, false, false, false, false, false, false, false, false, false] rfl rfl (any_of HT_.out (by kernel_rfl)) (fun _ _ _ h => h) (Or.inr ⟨by rfl, rfl⟩) ?_ ?_
      rotate_left
      ·simp only [Act.put, List.setIfInBounds_toArray, List.set_cons_zero, List.set_cons_succ, i64_w, i32_w]
       rfl
      refine pure_ (i := 8) (N := some 85) (v := undef) (a' := ?_) #[true, true, true, true, true, true, true, true, true, false, false, false, false, false, false, false, false, false, false, false, false, false, false, false, false, false, false, false, false, false, false, false, false] rfl rfl (any_of HT_.out (by kernel_rfl)) (fun _ _ _ h => h) (Or.inr ⟨by rfl, rfl⟩) ?_ ?_
      rotate_left
      ·simp only [Act.put, List.setIfInBounds_toArray, List.set_cons_zero, List.set_cons_succ, i64_w, i32_w]
       rfl
      refine pure_ (i := 9) (N := some 86) (v := undef) (a' := ?_) #[true, true, true, true, true, true, true, true, true, true, false, false, false, false, false, false, false, false, false, false, false, false, false, false, false, false, false, false, false, false, false, false, false] rfl rfl (any_of HT_.out (by kernel_rfl)) (fun _ _ _ h => h) (Or.inr ⟨by rfl, rfl⟩) ?_ ?_
      rotate_left
      ·simp only [Act.put, List.setIfInBounds_toArray, List.set_cons_zero, List.set_cons_succ, i64_w, i32_w]
       rfl
      refine pure_ (i := 10) (N := some 87) (v := undef) (a' := ?_) #[true, true, true, true, true, true, true, true, true, true, true, false, false, false, false, false, false, false, false, false, false, false, false, false, false, false, false, false, false, false, false, false, false] rfl rfl (any_of HT_.out (by kernel_rfl)) (fun _ _ _ h => h) (Or.inr ⟨by rfl, rfl⟩) ?_ ?_
      rotate_left
      ·simp only [Act.put, List.setIfInBounds_toArray, List.set_cons_zero, List.set_cons_succ, i64_w, i32_w]
       rfl
      refine pure_ (i := 11) (N := some 88) (v := undef) (a' := ?_) #[true, true, true, true, true, true, true, true, true, true, true, true, false, false, false, false, false, false, false, false, false, false, false, false, false, false, false, false, false, false, false, false, false] rfl rfl (any_of HT_.out (by kernel_rfl)) (fun _ _ _ h => h) (Or.inr ⟨by rfl, rfl⟩) ?_ ?_
      rotate_left
      ·simp only [Act.put, List.setIfInBounds_toArray, List.set_cons_zero, List.set_cons_succ, i64_w, i32_w]
       rfl
      refine pure_ (i := 12) (N := some 89) (v := undef) (a' := ?_) #[true, true, true, true, true, true, true, true, true, true, true, true, true, false, false, false, false, false, false, false, false, false, false, false, false, false, false, false, false, false, false, false, false] rfl rfl (any_of HT_.out (by kernel_rfl)) (fun _ _ _ h => h) (Or.inr ⟨by rfl, rfl⟩) ?_ ?_
      rotate_left
      ·simp only [Act.put, List.setIfInBounds_toArray, List.set_cons_zero, List.set_cons_succ, i64_w, i32_w]
       rfl
      refine pure_ (i := 13) (N := some 90) (v := ?_) (a' := ?_) #[true, true, true, true, true, true, true, true, true, true, true, true, true, true, false, false, false, false, false, false, false, false, false, false, false, false, false, false, false, false, false, false, false] rfl rfl (any_of HT_.out (by kernel_rfl)) (fun _ _ _ h => h) (Or.inl ⟨by rfl, ?_⟩) ?_ ?_
      rotate_left
      ·intro w'
       go_simp
       with_reducible rfl
      rotate_left
      ·simp only [Act.put, List.setIfInBounds_toArray, List.set_cons_zero, List.set_cons_succ, i64_w, i32_w]
       rfl
      refine pure_ (i := 14) (N := some 91) (v := ?_) (a' := ?_) #[true, true, true, true, true, true, true, true, true, true, true, true, true, true, true, false, false, false, false, false, false, false, false, false, false, false, false, false, false, false, false, false, false] rfl rfl (any_of HT_.out (by kernel_rfl)) (fun _ _ _ h => h) (Or.inl ⟨by rfl, ?_⟩) ?_ ?_
      rotate_left
      ·intro w'
       go_simp
       with_reducible rfl
      rotate_left
      ·simp only [Act.put, List.setIfInBounds_toArray, List.set_cons_zero, List.set_cons_succ, i64_w, i32_w]
       rfl
      refine pure_ (i := 15) (N := some 92) (v := undef) (a' := ?_) #[true, true, true, true, true, true, true, true, true, true, true, true, true, true, true, true, false, false, false, false, false, false, false, false, false, false, false, false, false, false, false, false, false] rfl rfl (any_of HT_.out (by kernel_rfl)) (fun _ _ _ h => h) (Or.inr ⟨by rfl, rfl⟩) ?_ ?_
      rotate_left
      ·simp only [Act.put, List.setIfInBounds_toArray, List.set_cons_zero, List.set_cons_succ, i64_w, i32_w]
       rfl
      refine pure_ (i := 16) (N := some 93) (v := undef) (a' := ?_) #[true, true, true, true, true, true, true, true, true, true, true, true, true, true, true, true, true, false, false, false, false, false, false, false, false, false, false, false, false, false, false, false, false] rfl rfl (any_of HT_.out (by kernel_rfl)) (fun _ _ _ h => h) (Or.inr ⟨by rfl, rfl⟩) ?_ ?_
      rotate_left
      ·simp only [Act.put, List.setIfInBounds_toArray, List.set_cons_zero, List.set_cons_succ, i64_w, i32_w]
       rfl
      refine pure_ (i := 17) (N := some 94) (v := undef) (a' := ?_) #[true, true, true, true, true, true, true, true, true, true, true, true, true, true, true, true, true, true, false, false, false, false, false, false, false, false, false, false, false, false, false, false, false] rfl rfl (any_of HT_.out (by kernel_rfl)) (fun _ _ _ h => h) (Or.inr ⟨by rfl, rfl⟩) ?_ ?_
      rotate_left
      ·simp only [Act.put, List.setIfInBounds_toArray, List.set_cons_zero, List.set_cons_succ, i64_w, i32_w]
       rfl
      refine pure_ (i := 18) (N := some 95) (v := undef) (a' := ?_) #[true, true, true, true, true, true, true, true, true, true, true, true, true, true, true, true, true, true, true, false, false, false, false, false, false, false, false, false, false, false, false, false, false] rfl rfl (any_of HT_.out (by kernel_rfl)) (fun _ _ _ h => h) (Or.inr ⟨by rfl, rfl⟩) ?_ ?_
      rotate_left
      ·simp only [Act.put, List.setIfInBounds_toArray, List.set_cons_zero, List.set_cons_succ, i64_w, i32_w]
       rfl
      refine pure_ (i := 19) (N := some 96) (v := undef) (a' := ?_) #[true, true, true, true, true, true, true, true, true, true, true, true, true, true, true, true, true, true, true, true, false, false, false, false, false, false, false, false, false, false, false, false, false] rfl rfl (any_of HT_.out (by kernel_rfl)) (fun _ _ _ h => h) (Or.inr ⟨by rfl, rfl⟩) ?_ ?_
      rotate_left
      ·simp only [Act.put, List.setIfInBounds_toArray, List.set_cons_zero, List.set_cons_succ, i64_w, i32_w]
       rfl
      refine pure_ (i := 20) (N := some 97) (v := undef) (a' := ?_) #[true, true, true, true, true, true, true, true, true, true, true, true, true, true, true, true, true, true, true, true, true, false, false, false, false, false, false, false, false, false, false, false, false] rfl rfl (any_of HT_.out (by kernel_rfl)) (fun _ _ _ h => h) (Or.inr ⟨by rfl, rfl⟩) ?_ ?_
      rotate_left
      ·simp only [Act.put, List.setIfInBounds_toArray, List.set_cons_zero, List.set_cons_succ, i64_w, i32_w]
       rfl
      refine pure_ (i := 21) (N := some 98) (v := undef) (a' := ?_) #[true, true, true, true, true, true, true, true, true, true, true, true, true, true, true, true, true, true, true, true, true, true, false, false, false, false, false, false, false, false, false, false, false] rfl rfl (any_of HT_.out (by kernel_rfl)) (fun _ _ _ h => h) (Or.inr ⟨by rfl, rfl⟩) ?_ ?_
      rotate_left
      ·simp only [Act.put, List.setIfInBounds_toArray, List.set_cons_zero, List.set_cons_succ, i64_w, i32_w]
       rfl
      refine pure_ (i := 22) (N := some 99) (v := undef) (a' := ?_) #[true, true, true, true, true, true, true, true, true, true, true, true, true, true, true, true, true, true, true, true, true, true, true, false, false, false, false, false, false, false, false, false, false] rfl rfl (any_of HT_.out (by kernel_rfl)) (fun _ _ _ h => h) (Or.inr ⟨by rfl, rfl⟩) ?_ ?_
      rotate_left
      ·simp only [Act.put, List.setIfInBounds_toArray, List.set_cons_zero, List.set_cons_succ, i64_w, i32_w]
       rfl
      refine pure_ (i := 23) (N := some 100) (v := ?_) (a' := ?_) #[true, true, true, true, true, true, true, true, true, true, true, true, true, true, true, true, true, true, true, true, true, true, true, true, false, false, false, false, false, false, false, false, false] rfl rfl (any_of HT_.out (by kernel_rfl)) (fun _ _ _ h => h) (Or.inl ⟨by rfl, ?_⟩) ?_ ?_
      rotate_left
      ·intro w'
       go_simp
       with_reducible rfl
      rotate_left
      ·simp only [Act.put, List.setIfInBounds_toArray, List.set_cons_zero, List.set_cons_succ, i64_w, i32_w]
       rfl
      refine pure_ (i := 24) (N := some 101) (v := ?_) (a' := ?_) #[true, true, true, true, true, true, true, true, true, true, true, true, true, true, true, true, true, true, true, true, true, true, true, true, true, false, false, false, false, false, false, false, false] rfl rfl (any_of HT_.out (by kernel_rfl)) (fun _ _ _ h => h) (Or.inl ⟨by rfl, ?_⟩) ?_ ?_
      rotate_left
      ·intro w'
       go_simp
       with_reducible rfl
      rotate_left
      ·simp only [Act.put, List.setIfInBounds_toArray, List.set_cons_zero, List.set_cons_succ, i64_w, i32_w]
       rfl
      refine pure_ (i := 25) (N := some 102) (v := undef) (a' := ?_) #[true, true, true, true, true, true, true, true, true, true, true, true, true, true, true, true, true, true, true, true, true, true, true, true, true, true, false, false, false, false, false, false, false] rfl rfl (any_of HT_.out (by kernel_rfl)) (fun _ _ _ h => h) (Or.inr ⟨by rfl, rfl⟩) ?_ ?_
      rotate_left
      ·simp only [Act.put, List.setIfInBounds_toArray, List.set_cons_zero, List.set_cons_succ, i64_w, i32_w]
       rfl
      refine pure_ (i := 26) (N := some 103) (v := undef) (a' := ?_) #[true, true, true, true, true, true, true, true, true, true, true, true, true, true, true, true, true, true, true, true, true, true, true, true, true, true, true, false, false, false, false, false, false] rfl rfl (any_of HT_.out (by kernel_rfl)) (fun _ _ _ h => h) (Or.inr ⟨by rfl, rfl⟩) ?_ ?_
      rotate_left
      ·simp only [Act.put, List.setIfInBounds_toArray, List.set_cons_zero, List.set_cons_succ, i64_w, i32_w]
       rfl
      refine pure_ (i := 27) (N := some 104) (v := undef) (a' := ?_) #[true, true, true, true, true, true, true, true, true, true, true, true, true, true, true, true, true, true, true, true, true, true, true, true, true, true, true, true, false, false, false, false, false] rfl rfl (any_of HT_.out (by kernel_rfl)) (fun _ _ _ h => h) (Or.inr ⟨by rfl, rfl⟩) ?_ ?_
      rotate_left
      ·simp only [Act.put, List.setIfInBounds_toArray, List.set_cons_zero, List.set_cons_succ, i64_w, i32_w]
       rfl
      refine pure_ (i := 28) (N := some 105) (v := undef) (a' := ?_) #[true, true, true, true, true, true, true, true, true, true, true, true, true, true, true, true, true, true, true, true, true, true, true, true, true, true, true, true, true, false, false, false, false] rfl rfl (any_of HT_.out (by kernel_rfl)) (fun _ _ _ h => h) (Or.inr ⟨by rfl, rfl⟩) ?_ ?_
      rotate_left
      ·simp only [Act.put, List.setIfInBounds_toArray, List.set_cons_zero, List.set_cons_succ, i64_w, i32_w]
       rfl
      refine pure_ (i := 29) (N := some 106) (v := undef) (a' := ?_) #[true, true, true, true, true, true, true, true, true, true, true, true, true, true, true, true, true, true, true, true, true, true, true, true, true, true, true, true, true, true, false, false, false] rfl rfl (any_of HT_.out (by kernel_rfl)) (fun _ _ _ h => h) (Or.inr ⟨by rfl, rfl⟩) ?_ ?_
      rotate_left
      ·simp only [Act.put, List.setIfInBounds_toArray, List.set_cons_zero, List.set_cons_succ, i64_w, i32_w]
       rfl
      refine pure_ (i := 30) (N := some 107) (v := undef) (a' := ?_) #[true, true, true, true, true, true, true, true, true, true, true, true, true, true, true, true, true, true, true, true, true, true, true, true, true, true, true, true, true, true, true, false, false] rfl rfl (any_of HT_.out (by kernel_rfl)) (fun _ _ _ h => h) (Or.inr ⟨by rfl, rfl⟩) ?_ ?_
      rotate_left
      ·simp only [Act.put, List.setIfInBounds_toArray, List.set_cons_zero, List.set_cons_succ, i64_w, i32_w]
       rfl
      refine pure_ (i := 31) (N := some 108) (v := undef) (a' := ?_) #[true, true, true, true, true, true, true, true, true, true, true, true, true, true, true, true, true, true, true, true, true, true, true, true, true, true, true, true, true, true, true, true, false] rfl rfl (any_of HT_.out (by kernel_rfl)) (fun _ _ _ h => h) (Or.inr ⟨by rfl, rfl⟩) ?_ ?_
      rotate_left
      ·simp only [Act.put, List.setIfInBounds_toArray, List.set_cons_zero, List.set_cons_succ, i64_w, i32_w]
       rfl
      refine pure_ (i := 32) (N := some 109) (v := ?_) (a' := ?_) #[true, true, true, true, true, true, true, true, true, true, true, true, true, true, true, true, true, true, true, true, true, true, true, true, true, true, true, true, true, true, true, true, true] rfl rfl (any_of HT_.out (by kernel_rfl)) (fun _ _ _ h => h) (Or.inl ⟨by rfl, ?_⟩) ?_ ?_
      rotate_left
      ·intro w'
       go_simp
       with_reducible rfl
      rotate_left
      ·simp only [Act.put, List.setIfInBounds_toArray, List.set_cons_zero, List.set_cons_succ, i64_w, i32_w]
       rfl
      refine done_ (done_of HT_.out (by kernel_rfl)) ?_
      try go_wp2
      go_meet
      case rel => exact ⟨_, (true), (by first | rfl | (simp; done) | (simp [*]; done)), H', ⟨by first | omega | exact Nat.le_refl _⟩, ⟨by (with_reducible repeat (first | refine blk_drewN ?_ _ | refine blk_drew ?_ | refine blk_alloc ?_ _)); exact BK389.out⟩, ⟨by (with_reducible repeat (first | refine blk_drewN ?_ _ | refine blk_drew ?_ | refine blk_alloc ?_ _)); exact BK409.out⟩, ⟨by (with_reducible repeat (first | refine blk_drewN ?_ _ | refine blk_drew ?_ | refine blk_alloc ?_ _)); exact BK413.out⟩, ⟨by repeat (first | (with_reducible first | exact HB.out | apply below_alloc | apply pw_below_drewN | apply below_drew1 | refine below_set ?_ GE389.out | refine below_set ?_ GE409.out | refine below_set ?_ GE413.out) | exact HB.out)⟩⟩
    case rest =>
     clear HC32
     try clear p2
     try clear c5
     try clear c52
     try clear c53
     obtain ⟨kq, x109_31, rfl, HA, HJ31, BK389, BK409, BK413, HB⟩ := hcut
     cases kq with
          | zero => exact absurd HA.out (by simp [laws_FnHalves.j0])
          | succ kj31 =>
      have H := HA.out
      clear HA
      simp only [laws_FnHalves.j0] at H
      by_cases c71 : x109_31 = true
      ·subst c71
       have H1 : (some false) = some r := by rw [if_pos rfl] at H; exact H
       clear H
       have H := H1
       clear H1
       exact absurd ((Option.some.inj H).trans HT.out) (by decide)
      ·replace c71 := Bool.eq_false_iff.mpr c71
       subst c71
       have H1 : ((impl_Known.f kj31 t406 t407).bind fun t416 => ((impl_Known.f kj31 t410 t411).bind fun t417 => (if t416 ≥ 0 then (if ((decide (t397 ≥ 0)) != (t416 == t417)) = true then (some false) else (if t397 ≥ 0 then (if t397 = t416 then ((impl_Needs.f kj31 t387 t388).bind fun t418 => (if (t418.length : Int) > 0 then (if 0 < (t418.length : Int) then (if (((rd t418 0) == 0) == (!(t406 == t410) || (!(t407.toList == t411.toList)))) = true then (some ((decide (t397 ≥ 0)) == ((t418.length : Int) == 0))) else (some false)) else (none)) else (if (false == (!(t406 == t410) || (!(t407.toList == t411.toList)))) = true then (some ((decide (t397 ≥ 0)) == ((t418.length : Int) == 0))) else (some false)))) else (some false)) else ((impl_Needs.f kj31 t387 t388).bind fun t422 => (if (t422.length : Int) > 0 then (if 0 < (t422.length : Int) then (if (((rd t422 0) == 0) == (!(t406 == t410) || (!(t407.toList == t411.toList)))) = true then (some ((decide (t397 ≥ 0)) == ((t422.length : Int) == 0))) else (some false)) else (none)) else (if (false == (!(t406 == t410) || (!(t407.toList == t411.toList)))) = true then (some ((decide (t397 ≥ 0)) == ((t422.length : Int) == 0))) else (some false)))))) else (if ((decide (t397 ≥ 0)) != false) = true then (some false) else (if t397 ≥ 0 then (if t397 = t416 then ((impl_Needs.f kj31 t387 t388).bind fun t426 => (if (t426.length : Int) > 0 then (if 0 < (t426.length : Int) then (if (((rd t426 0) == 0) == (!(t406 == t410) || (!(t407.toList == t411.toList)))) = true then (some ((decide (t397 ≥ 0)) == ((t426.length : Int) == 0))) else (some false)) else (none)) else (if (false == (!(t406 == t410) || (!(t407.toList == t411.toList)))) = true then (some ((decide (t397 ≥ 0)) == ((t426.length : Int) == 0))) else (some false)))) else (some false)) else ((impl_Needs.f kj31 t387 t388).bind fun t430 => (if (t430.length : Int) > 0 then (if 0 < (t430.length : Int) then (if (((rd t430 0) == 0) == (!(t406 == t410) || (!(t407.toList == t411.toList)))) = true then (some ((decide (t397 ≥ 0)) == ((t430.length : Int) == 0))) else (some false)) else (none)) else (if (false == (!(t406 == t410) || (!(t407.toList == t411.toList)))) = true then (some ((decide (t397 ≥ 0)) == ((t430.length : Int) == 0))) else (some false))))))))) = some r := by rw [if_neg (show ¬ (false = true) by decide)] at H; exact H
       clear H
       have H := H1
       clear H1
       replace H := Option.bind_eq_some_iff.mp H
       obtain ⟨t416, A720, H⟩ := H
       replace H : ((impl_Known.f kj31 t410 t411).bind fun t417 => (if t416 ≥ 0 then (if ((decide (t397 ≥ 0)) != (t416 == t417)) = true then (some false) else (if t397 ≥ 0 then (if t397 = t416 then ((impl_Needs.f kj31 t387 t388).bind fun t418 => (if (t418.length : Int) > 0 then (if 0 < (t418.length : Int) then (if (((rd t418 0) == 0) == (!(t406 == t410) || (!(t407.toList == t411.toList)))) = true then (some ((decide (t397 ≥ 0)) == ((t418.length : Int) == 0))) else (some false)) else (none)) else (if (false == (!(t406 == t410) || (!(t407.toList == t411.toList)))) = true then (some ((decide (t397 ≥ 0)) == ((t418.length : Int) == 0))) else (some false)))) else (some false)) else ((impl_Needs.f kj31 t387 t388).bind fun t422 => (if (t422.length : Int) > 0 then (if 0 < (t422.length : Int) then (if (((rd t422 0) == 0) == (!(t406 == t410) || (!(t407.toList == t411.toList)))) = true then (some ((decide (t397 ≥ 0)) == ((t422.length : Int) == 0))) else (some false)) else (none)) else (if (false == (!(t406 == t410) || (!(t407.toList == t411.toList)))) = true then (some ((decide (t397 ≥ 0)) == ((t422.length : Int) == 0))) else (some false)))))) else (if ((decide (t397 ≥ 0)) != false) = true then (some false) else (if t397 ≥ 0 then (if t397 = t416 then ((impl_Needs.f kj31 t387 t388).bind fun t426 => (if (t426.length : Int) > 0 then (if 0 < (t426.length : Int) then (if (((rd t426 0) == 0) == (!(t406 == t410) || (!(t407.toList == t411.toList)))) = true then (some ((decide (t397 ≥ 0)) == ((t426.length : Int) == 0))) else (some false)) else (none)) else (if (false == (!(t406 == t410) || (!(t407.toList == t411.toList)))) = true then (some ((decide (t397 ≥ 0)) == ((t426.length : Int) == 0))) else (some false)))) else (some false)) else ((impl_Needs.f kj31 t387 t388).bind fun t430 => (if (t430.length : Int) > 0 then (if 0 < (t430.length : Int) then (if (((rd t430 0) == 0) == (!(t406 == t410) || (!(t407.toList == t411.toList)))) = true then (some ((decide (t397 ≥ 0)) == ((t430.length : Int) == 0))) else (some false)) else (none)) else (if (false == (!(t406 == t410) || (!(t407.toList == t411.toList)))) = true then (some ((decide (t397 ≥ 0)) == ((t430.length : Int) == 0))) else (some false)))))))) = some r := H
       have A72 := Aside0.mk A720
       clear A720
       replace H := Option.bind_eq_some_iff.mp H
       obtain ⟨t417, A730, H⟩ := H
       replace H : (if t416 ≥ 0 then (if ((decide (t397 ≥ 0)) != (t416 == t417)) = true then (some false) else (if t397 ≥ 0 then (if t397 = t416 then ((impl_Needs.f kj31 t387 t388).bind fun t418 => (if (t418.length : Int) > 0 then (if 0 < (t418.length : Int) then (if (((rd t418 0) == 0) == (!(t406 == t410) || (!(t407.toList == t411.toList)))) = true then (some ((decide (t397 ≥ 0)) == ((t418.length : Int) == 0))) else (some false)) else (none)) else (if (false == (!(t406 == t410) || (!(t407.toList == t411.toList)))) = true then (some ((decide (t397 ≥ 0)) == ((t418.length : Int) == 0))) else (some false)))) else (some false)) else ((impl_Needs.f kj31 t387 t388).bind fun t422 => (if (t422.length : Int) > 0 then (if 0 < (t422.length : Int) then (if (((rd t422 0) == 0) == (!(t406 == t410) || (!(t407.toList == t411.toList)))) = true then (some ((decide (t397 ≥ 0)) == ((t422.length : Int) == 0))) else (some false)) else (none)) else (if (false == (!(t406 == t410) || (!(t407.toList == t411.toList)))) = true then (some ((decide (t397 ≥ 0)) == ((t422.length : Int) == 0))) else (some false)))))) else (if ((decide (t397 ≥ 0)) != false) = true then (some false) else (if t397 ≥ 0 then (if t397 = t416 then ((impl_Needs.f kj31 t387 t388).bind fun t426 => (if (t426.length : Int) > 0 then (if 0 < (t426.length : Int) then (if (((rd t426 0) == 0) == (!(t406 == t410) || (!(t407.toList == t411.toList)))) = true then (some ((decide (t397 ≥ 0)) == ((t426.length : Int) == 0))) else (some false)) else (none)) else (if (false == (!(t406 == t410) || (!(t407.toList == t411.toList)))) = true then (some ((decide (t397 ≥ 0)) == ((t426.length : Int) == 0))) else (some false)))) else (some false)) else ((impl_Needs.f kj31 t387 t388).bind fun t430 => (if (t430.length : Int) > 0 then (if 0 < (t430.length : Int) then (if (((rd t430 0) == 0) == (!(t406 == t410) || (!(t407.toList == t411.toList)))) = true then (some ((decide (t397 ≥ 0)) == ((t430.length : Int) == 0))) else (some false)) else (none)) else (if (false == (!(t406 == t410) || (!(t407.toList == t411.toList)))) = true then (some ((decide (t397 ≥ 0)) == ((t430.length : Int) == 0))) else (some false))))))) = some r := H
       have A73 := Aside0.mk A730
       clear A730
       by_cases c74 : t416 ≥ 0
       ·rw [if_pos c74] at H
        have c74b0 : decide (0 ≤ t416) = true := decide_eq_true c74
        clear c74
        by_cases c75 : ((decide (t397 ≥ 0)) != (t416 == t417)) = true
        ·rw [if_pos c75] at H
         have c75b0 : ((decide (t397 ≥ 0)) != (t416 == t417)) = true := c75
         (try (have c75b1 : decide ((decide (t397 ≥ 0)) = (t416 == t417)) = false := by simpa using c75))
         (try (have c75b2 : ((decide (t397 ≥ 0)) == (t416 == t417)) = false := by simpa using c75))
         (try (have c75b3 : ¬ ((decide (t397 ≥ 0)) = (t416 == t417)) := by simpa using c75))
         clear c75
         exact absurd ((Option.some.inj H).trans HT.out) (by decide)
        ·rw [if_neg c75] at H
         have c75b0 : ((decide (t397 ≥ 0)) != (t416 == t417)) = false := by simpa using c75
         (try (have c75b1 : decide ((decide (t397 ≥ 0)) = (t416 == t417)) = true := by simpa using c75))
         (try (have c75b2 : ((decide (t397 ≥ 0)) == (t416 == t417)) = true := by simpa using c75))
         clear c75
         by_cases c76 : t397 ≥ 0
         ·rw [if_pos c76] at H
          have c76b0 : decide (0 ≤ t397) = true := decide_eq_true c76
          have c76e0 : (t416 == t417) = true := by have h_ := c75b2; rw [show decide (t397 ≥ 0) = true from c76b0] at h_; revert h_; cases (t416 == t417) <;> decide
          have c76e1 : (t416 = t417) = True := by first | exact eq_true (beq_iff_eq.1 c76e0) | exact eq_false (fun h_ => by rw [h_] at c76e0; simp at c76e0)
          clear c76
          by_cases c77 : t397 = t416
          ·rw [if_pos c77] at H
           have c77b0 : (t397 == t416) = true := beq_iff_eq.mpr c77
           have c77b1 : (t397 != t416) = false := bne_eq_false_iff_eq.mpr c77
           clear c77
           replace H := Option.bind_eq_some_iff.mp H
           obtain ⟨t418, A780, H⟩ := H
           replace H : (if (t418.length : Int) > 0 then (if 0 < (t418.length : Int) then (if (((rd t418 0) == 0) == (!(t406 == t410) || (!(t407.toList == t411.toList)))) = true then (some ((decide (t397 ≥ 0)) == ((t418.length : Int) == 0))) else (some false)) else (none)) else (if (false == (!(t406 == t410) || (!(t407.toList == t411.toList)))) = true then (some ((decide (t397 ≥ 0)) == ((t418.length : Int) == 0))) else (some false))) = some r := H
           have A78 := Aside0.mk A780
           clear A780
           by_cases c79 : (t418.length : Int) > 0
           ·rw [if_pos c79] at H
            have c79b0 : decide (0 < (t418.length : Int)) = true := decide_eq_true c79
            have c79b1 : decide (0 < t418.length) = true := decide_eq_true (by omega)
            clear c79
            by_cases c80 : 0 < (t418.length : Int)
            ·rw [if_pos c80] at H
             have c80b0 : decide (0 < (t418.length : Int)) = true := decide_eq_true c80
             have c80b1 : decide (0 < t418.length) = true := decide_eq_true (by omega)
             clear c80
             by_cases c81 : (((rd t418 0) == 0) == (!(t406 == t410) || (!(t407.toList == t411.toList)))) = true
             ·rw [if_pos c81] at H
              have c81b0 : (((rd t418 0) == 0) == (!(t406 == t410) || (!(t407.toList == t411.toList)))) = true := c81
              (try (have c81b1 : decide (((rd t418 0) == 0) = (!(t406 == t410) || (!(t407.toList == t411.toList)))) = true := by simpa using c81))
              (try (have c81b2 : (((rd t418 0) == 0) == (!(t406 == t410) || (!(t407.toList == t411.toList)))) = true := by simpa using c81))
              clear c81
              obtain rfl := Option.some.inj H
              try go_wp2
              have n0_ := Aside0.mk (blk_drew BK389.out)
              have n1_ := Aside0.mk (blk_drew BK409.out)
              have n2_ := Aside0.mk (blk_drew BK413.out)
              have n3_ := Aside0.mk (below_drew1 HB.out)
              clear BK389
              clear BK409
              clear BK413
              clear HB
              have BK389 := n0_
              have BK409 := n1_
              have BK413 := n2_
              have HB := n3_
              clear n0_ n1_ n2_ n3_
              refine start_ (n := 6) (S := fun w' => w'.cell? ⟨gb409, 0, none⟩ = some (.int .i64 t406) ∧ w'.cell? ⟨gb409, 1, none⟩ = some (.string t407) ∧ w'.cell? ⟨gb413, 0, none⟩ = some (.int .i64 t410) ∧ w'.cell? ⟨gb413, 1, none⟩ = some (.string t411)) (ds := []) #[false, false, false, false, false, false] (by kernel_rfl) rfl rfl ⟨(blk_cell BK409.out 0).trans rfl, (blk_cell BK409.out 1).trans rfl, (blk_cell BK413.out 0).trans rfl, (blk_cell BK413.out 1).trans rfl⟩ (fun hHeld => ?_)
              generalize wc.drew = w82 at BK389 BK409 BK413 HB hHeld ⊢
              refine take_ (i := 0) (N := some 110) (v := ?_) (a' := ?_) #[true, false, false, false, false, false] rfl rfl (by kernel_rfl) (fun _ _ _ h => h) (Or.inl ⟨by rfl, ?_⟩) hHeld ?_ ?_
              rotate_left
              ·rintro w' ⟨s0, s1, s2, s3⟩
               go_simp
               with_reducible rfl
              rotate_left
              ·simp only [Act.put, List.setIfInBounds_toArray, List.set_cons_zero, List.set_cons_succ, i64_w, i32_w]
               rfl
              refine take_ (i := 2) (N := some 112) (v := ?_) (a' := ?_) #[true, false, true, false, false, false] rfl rfl (by kernel_rfl) (fun _ _ _ h => h) (Or.inl ⟨by rfl, ?_⟩) hHeld ?_ ?_
              rotate_left
              ·rintro w' ⟨s0, s1, s2, s3⟩
               go_simp
               with_reducible rfl
              rotate_left
              ·simp only [Act.put, List.setIfInBounds_toArray, List.set_cons_zero, List.set_cons_succ, i64_w, i32_w]
               rfl
              refine one_ (i := 1) (N := some 111) #[true, true, true, false, false, false] rfl rfl (by kernel_rfl) (by decide) (fun K hK => ?_)
              refine goes_ Try.func17 (by kernel_rfl) rfl #[.agg #[.int .i64 t406, .string t407]] (by rfl) rfl rfl (by (try simp only [List.map_toArray, List.map_cons, List.map_nil]); first | done | rfl | (simp only [List.length_drop, List.length_take]; rfl)) ?_
              with_reducible refine (impl_Known.calls kj31 t406 t407 t416 _ A72.out).mono ?_
              rintro e w83 ⟨rfl, hb⟩
              refine ⟨_, rfl, ?_⟩
              have n0_ := bb BK389 hb
              have n1_ := bb BK409 hb
              have n2_ := bb BK413 hb
              have n3_ := bs HB hb
              clear BK389
              clear BK409
              clear BK413
              clear HB
              have BK389 := n0_
              have BK409 := n1_
              have BK413 := n2_
              have HB := n3_
              clear n0_ n1_ n2_ n3_
              (try clear hb)
              (try clear hb2)
              (try clear hk)
              (try clear hi)
              refine hK.out _ _ ⟨(blk_cell BK409.out 0).trans rfl, (blk_cell BK409.out 1).trans rfl, (blk_cell BK413.out 0).trans rfl, (blk_cell BK413.out 1).trans rfl⟩ (fun hHeld => ?_)
              clear hK K
              refine norm_ (a' := ?_) ?_ ?_
              rotate_left
              ·show Act.put _ (some 111) _ = _
               simp only [Act.put, List.setIfInBounds_toArray, List.set_cons_zero, List.set_cons_succ, i64_w, i32_w]
               rfl
              refine one_ (i := 3) (N := some 113) #[true, true, true, true, false, false] rfl rfl (by kernel_rfl) (by decide) (fun K hK => ?_)
              refine goes_ Try.func17 (by kernel_rfl) rfl #[.agg #[.int .i64 t410, .string t411]] (by rfl) rfl rfl (by (try simp only [List.map_toArray, List.map_cons, List.map_nil]); first | done | rfl | (simp only [List.length_drop, List.length_take]; rfl)) ?_
              with_reducible refine (impl_Known.calls kj31 t410 t411 t417 _ A73.out).mono ?_
              rintro e w84 ⟨rfl, hb⟩
              refine ⟨_, rfl, ?_⟩
              have n0_ := bb BK389 hb
              have n1_ := bb BK409 hb
              have n2_ := bb BK413 hb
              have n3_ := bs HB hb
              clear BK389
              clear BK409
              clear BK413
              clear HB
              have BK389 := n0_
              have BK409 := n1_
              have BK413 := n2_
              have HB := n3_
              clear n0_ n1_ n2_ n3_
              (try clear hb)
              (try clear hb2)
              (try clear hk)
              (try clear hi)
              refine hK.out _ _ ⟨(blk_cell BK409.out 0).trans rfl, (blk_cell BK409.out 1).trans rfl, (blk_cell BK413.out 0).trans rfl, (blk_cell BK413.out 1).trans rfl⟩ (fun hHeld => ?_)
              clear hK K
              refine norm_ (a' := ?_) ?_ ?_
              rotate_left
              ·show Act.put _ (some 113) _ = _
               simp only [Act.put, List.setIfInBounds_toArray, List.set_cons_zero, List.set_cons_succ, i64_w, i32_w]
               rfl
              refine pure_ (i := 4) (N := some 12) (v := ?_) (a' := ?_) #[true, true, true, true, true, false] rfl rfl (by kernel_rfl) (fun _ _ _ h => h) (Or.inl ⟨by rfl, ?_⟩) ?_ ?_
              rotate_left
              ·intro w'
               go_simp
               with_reducible rfl
              rotate_left
              ·simp only [Act.put, List.setIfInBounds_toArray, List.set_cons_zero, List.set_cons_succ, i64_w, i32_w]
               rfl
              refine pure_ (i := 5) (N := some 13) (v := ?_) (a' := ?_) #[true, true, true, true, true, true] rfl rfl (by kernel_rfl) (fun _ _ _ h => h) (Or.inl ⟨by rfl, ?_⟩) ?_ ?_
              rotate_left
              ·intro w'
               go_simp
               with_reducible rfl
              rotate_left
              ·simp only [Act.put, List.setIfInBounds_toArray, List.set_cons_zero, List.set_cons_succ, i64_w, i32_w]
               rfl
              refine done_ (by kernel_rfl) ?_
              have hnb85 := NB389_409.out
              have hnc85 := NB409_389.out
              have hnb86 := NB389_413.out
              have hnc86 := NB413_389.out
              have hcz87_0 : w84.cell? ⟨gb389, 0, none⟩ = some (.int .i64 t387) := (blk_cell BK389.out 0).trans rfl
              have hcz87_1 : w84.cell? ⟨gb389, 1, none⟩ = some (.string t388) := (blk_cell BK389.out 1).trans rfl
              have hfz87_0 := blk_frozen BK389.out 0
              have hfz87_1 := blk_frozen BK389.out 1
              try go_wp2_with (first | ((with_reducible refine gate_callee (f := 15) rfl ?_); refine goesL_ (some 134) rfl rfl Try.func15 (by kernel_rfl) rfl #[.agg #[.int .i64 t387, .string t388]] rfl (by (try simp only [List.map_toArray, List.map_cons, List.map_nil]); first | done | rfl | (simp only [List.length_drop, List.length_take]; rfl)) ?_; (with_reducible refine (impl_Needs.calls kj31 t387 t388 t418 _ A78.out).mono ?_); rintro e w88 ⟨v419, rfl, ho0, hb⟩; refine ⟨_, rfl, ?_⟩; have n0_ := Aside0.mk (Kd.R_lower ho0 (below_size (by repeat (first | (with_reducible first | exact HB.out | apply below_alloc | apply pw_below_drewN | apply below_drew1 | refine below_set ?_ GE389.out | refine below_set ?_ GE409.out | refine below_set ?_ GE413.out) | exact HB.out)))); have n1_ := bb BK389 hb; have n2_ := bb BK409 hb; have n3_ := bb BK413 hb; have n4_ := bs HB hb; clear BK389; clear BK409; clear BK413; clear HB; have HO420 := n0_; have BK389 := n1_; have BK409 := n2_; have BK413 := n3_; have HB := n4_; clear n0_ n1_ n2_ n3_ n4_; (try clear hb); (try clear hb2); (try clear hk); (try clear hi); (try clear ho0); obtain ⟨Ao89, co89, eo89⟩ := Kd.R_slice HO420.out; subst eo89; have p421 : 0 ≤ (0 : Int) := (by omega); have q421 : 0 < (t418.length : Int) := of_decide_eq_true (by first | (with_reducible assumption) | assumption); obtain ⟨ad421, e421, hx421_0⟩ := Kd.at_int (Kd.R_reads' HO420.out).2.2 0 p421 q421; cases e421; have qi421 : (0 < t418.length) = True := eq_true (by omega); (try rw [show ((0 : Int)).toNat = 0 from rfl] at hx421_0); (try rw [Addr.add_zero'] at hx421_0); replace p421 := eq_true p421; replace q421 := eq_true q421; have hnb90 := NB409_413.out; have hnc90 := NB413_409.out; have hcz91_0 : w88.cell? ⟨gb409, 0, none⟩ = some (.int .i64 t406) := (blk_cell BK409.out 0).trans rfl; have hcz91_1 : w88.cell? ⟨gb409, 1, none⟩ = some (.string t407) := (blk_cell BK409.out 1).trans rfl; have hfz91_0 := blk_frozen BK409.out 0; have hfz91_1 := blk_frozen BK409.out 1; have hcz92_0 : w88.cell? ⟨gb413, 0, none⟩ = some (.int .i64 t410) := (blk_cell BK413.out 0).trans rfl; have hcz92_1 : w88.cell? ⟨gb413, 1, none⟩ = some (.string t411) := (blk_cell BK413.out 1).trans rfl; have hfz92_0 := blk_frozen BK413.out 0; have hfz92_1 := blk_frozen BK413.out 1))
              go_ret
              exact ⟨by first | rfl | (simp [errW_none, errW_some] <;> rfl) | (simp [*, errW_none, errW_some] <;> rfl) | (simp [errW_none, errW_some, show ¬ t418 = [] from by intro h_; rw [h_] at c79b0; simp at c79b0, show ¬ t418 = [] from by intro h_; rw [h_] at c80b0; simp at c80b0]; done) | (simp [*, show ¬ t418 = [] from by intro h_; rw [h_] at c79b0; simp at c79b0, show ¬ t418 = [] from by intro h_; rw [h_] at c80b0; simp at c80b0]; done) | (simp [errW_none, errW_some, show ¬ t418 = [] from by intro h_; rw [h_] at c79b0; simp at c79b0, show ¬ t418 = [] from by intro h_; rw [h_] at c80b0; simp at c80b0] <;> rfl), by repeat (first | (with_reducible first | exact HB.out | apply below_alloc | apply pw_below_drewN | apply below_drew1 | refine below_set ?_ GE389.out | refine below_set ?_ GE409.out | refine below_set ?_ GE413.out) | exact HB.out)⟩
             ·rw [if_neg c81] at H
              have c81b0 : (((rd t418 0) == 0) == (!(t406 == t410) || (!(t407.toList == t411.toList)))) = false := by simpa using c81
              (try (have c81b1 : decide (((rd t418 0) == 0) = (!(t406 == t410) || (!(t407.toList == t411.toList)))) = false := by simpa using c81))
              (try (have c81b2 : (((rd t418 0) == 0) == (!(t406 == t410) || (!(t407.toList == t411.toList)))) = false := by simpa using c81))
              (try (have c81b3 : ¬ (((rd t418 0) == 0) = (!(t406 == t410) || (!(t407.toList == t411.toList)))) := by simpa using c81))
              clear c81
              exact absurd ((Option.some.inj H).trans HT.out) (by decide)
            ·rw [if_neg c80] at H
             exact absurd H (by simp)
           ·rw [if_neg c79] at H
            have c79b0 : decide (0 < (t418.length : Int)) = false := decide_eq_false c79
            have c79b1 : decide (0 < t418.length) = false := decide_eq_false (by omega)
            clear c79
            by_cases c93 : (false == (!(t406 == t410) || (!(t407.toList == t411.toList)))) = true
            ·rw [if_pos c93] at H
             have c93b0 : (false == (!(t406 == t410) || (!(t407.toList == t411.toList)))) = true := c93
             (try (have c93b1 : decide (false = (!(t406 == t410) || (!(t407.toList == t411.toList)))) = true := by simpa using c93))
             (try (have c93b2 : (false == (!(t406 == t410) || (!(t407.toList == t411.toList)))) = true := by simpa using c93))
             clear c93
             obtain rfl := Option.some.inj H
             try go_wp2
             have n0_ := Aside0.mk (blk_drew BK389.out)
             have n1_ := Aside0.mk (blk_drew BK409.out)
             have n2_ := Aside0.mk (blk_drew BK413.out)
             have n3_ := Aside0.mk (below_drew1 HB.out)
             clear BK389
             clear BK409
             clear BK413
             clear HB
             have BK389 := n0_
             have BK409 := n1_
             have BK413 := n2_
             have HB := n3_
             clear n0_ n1_ n2_ n3_
             refine start_ (n := 6) (S := fun w' => w'.cell? ⟨gb409, 0, none⟩ = some (.int .i64 t406) ∧ w'.cell? ⟨gb409, 1, none⟩ = some (.string t407) ∧ w'.cell? ⟨gb413, 0, none⟩ = some (.int .i64 t410) ∧ w'.cell? ⟨gb413, 1, none⟩ = some (.string t411)) (ds := []) #[false, false, false, false, false, false] (by kernel_rfl) rfl rfl ⟨(blk_cell BK409.out 0).trans rfl, (blk_cell BK409.out 1).trans rfl, (blk_cell BK413.out 0).trans rfl, (blk_cell BK413.out 1).trans rfl⟩ (fun hHeld => ?_)
             generalize wc.drew = w94 at BK389 BK409 BK413 HB hHeld ⊢
             refine take_ (i := 0) (N := some 110) (v := ?_) (a' := ?_) #[true, false, false, false, false, false] rfl rfl (by kernel_rfl) (fun _ _ _ h => h) (Or.inl ⟨by rfl, ?_⟩) hHeld ?_ ?_
             rotate_left
             ·rintro w' ⟨s0, s1, s2, s3⟩
              go_simp
              with_reducible rfl
             rotate_left
             ·simp only [Act.put, List.setIfInBounds_toArray, List.set_cons_zero, List.set_cons_succ, i64_w, i32_w]
              rfl
             refine take_ (i := 2) (N := some 112) (v := ?_) (a' := ?_) #[true, false, true, false, false, false] rfl rfl (by kernel_rfl) (fun _ _ _ h => h) (Or.inl ⟨by rfl, ?_⟩) hHeld ?_ ?_
             rotate_left
             ·rintro w' ⟨s0, s1, s2, s3⟩
              go_simp
              with_reducible rfl
             rotate_left
             ·simp only [Act.put, List.setIfInBounds_toArray, List.set_cons_zero, List.set_cons_succ, i64_w, i32_w]
              rfl
             refine one_ (i := 1) (N := some 111) #[true, true, true, false, false, false] rfl rfl (by kernel_rfl) (by decide) (fun K hK => ?_)
             refine goes_ Try.func17 (by kernel_rfl) rfl #[.agg #[.int .i64 t406, .string t407]] (by rfl) rfl rfl (by (try simp only [List.map_toArray, List.map_cons, List.map_nil]); first | done | rfl | (simp only [List.length_drop, List.length_take]; rfl)) ?_
             with_reducible refine (impl_Known.calls kj31 t406 t407 t416 _ A72.out).mono ?_
             rintro e w95 ⟨rfl, hb⟩
             refine ⟨_, rfl, ?_⟩
             have n0_ := bb BK389 hb
             have n1_ := bb BK409 hb
             have n2_ := bb BK413 hb
             have n3_ := bs HB hb
             clear BK389
             clear BK409
             clear BK413
             clear HB
             have BK389 := n0_
             have BK409 := n1_
             have BK413 := n2_
             have HB := n3_
             clear n0_ n1_ n2_ n3_
             (try clear hb)
             (try clear hb2)
             (try clear hk)
             (try clear hi)
             refine hK.out _ _ ⟨(blk_cell BK409.out 0).trans rfl, (blk_cell BK409.out 1).trans rfl, (blk_cell BK413.out 0).trans rfl, (blk_cell BK413.out 1).trans rfl⟩ (fun hHeld => ?_)
             clear hK K
             refine norm_ (a' := ?_) ?_ ?_
             rotate_left
             ·show Act.put _ (some 111) _ = _
              simp only [Act.put, List.setIfInBounds_toArray, List.set_cons_zero, List.set_cons_succ, i64_w, i32_w]
              rfl
             refine one_ (i := 3) (N := some 113) #[true, true, true, true, false, false] rfl rfl (by kernel_rfl) (by decide) (fun K hK => ?_)
             refine goes_ Try.func17 (by kernel_rfl) rfl #[.agg #[.int .i64 t410, .string t411]] (by rfl) rfl rfl (by (try simp only [List.map_toArray, List.map_cons, List.map_nil]); first | done | rfl | (simp only [List.length_drop, List.length_take]; rfl)) ?_
             with_reducible refine (impl_Known.calls kj31 t410 t411 t417 _ A73.out).mono ?_
             rintro e w96 ⟨rfl, hb⟩
             refine ⟨_, rfl, ?_⟩
             have n0_ := bb BK389 hb
             have n1_ := bb BK409 hb
             have n2_ := bb BK413 hb
             have n3_ := bs HB hb
             clear BK389
             clear BK409
             clear BK413
             clear HB
             have BK389 := n0_
             have BK409 := n1_
             have BK413 := n2_
             have HB := n3_
             clear n0_ n1_ n2_ n3_
             (try clear hb)
             (try clear hb2)
             (try clear hk)
             (try clear hi)
             refine hK.out _ _ ⟨(blk_cell BK409.out 0).trans rfl, (blk_cell BK409.out 1).trans rfl, (blk_cell BK413.out 0).trans rfl, (blk_cell BK413.out 1).trans rfl⟩ (fun hHeld => ?_)
             clear hK K
             refine norm_ (a' := ?_) ?_ ?_
             rotate_left
             ·show Act.put _ (some 113) _ = _
              simp only [Act.put, List.setIfInBounds_toArray, List.set_cons_zero, List.set_cons_succ, i64_w, i32_w]
              rfl
             refine pure_ (i := 4) (N := some 12) (v := ?_) (a' := ?_) #[true, true, true, true, true, false] rfl rfl (by kernel_rfl) (fun _ _ _ h => h) (Or.inl ⟨by rfl, ?_⟩) ?_ ?_
             rotate_left
             ·intro w'
              go_simp
              with_reducible rfl
             rotate_left
             ·simp only [Act.put, List.setIfInBounds_toArray, List.set_cons_zero, List.set_cons_succ, i64_w, i32_w]
              rfl
             refine pure_ (i := 5) (N := some 13) (v := ?_) (a' := ?_) #[true, true, true, true, true, true] rfl rfl (by kernel_rfl) (fun _ _ _ h => h) (Or.inl ⟨by rfl, ?_⟩) ?_ ?_
             rotate_left
             ·intro w'
              go_simp
              with_reducible rfl
             rotate_left
             ·simp only [Act.put, List.setIfInBounds_toArray, List.set_cons_zero, List.set_cons_succ, i64_w, i32_w]
              rfl
             refine done_ (by kernel_rfl) ?_
             have hnb97 := NB389_409.out
             have hnc97 := NB409_389.out
             have hnb98 := NB389_413.out
             have hnc98 := NB413_389.out
             have hcz99_0 : w96.cell? ⟨gb389, 0, none⟩ = some (.int .i64 t387) := (blk_cell BK389.out 0).trans rfl
             have hcz99_1 : w96.cell? ⟨gb389, 1, none⟩ = some (.string t388) := (blk_cell BK389.out 1).trans rfl
             have hfz99_0 := blk_frozen BK389.out 0
             have hfz99_1 := blk_frozen BK389.out 1
             try go_wp2_with (first | ((with_reducible refine gate_callee (f := 15) rfl ?_); refine goesL_ (some 134) rfl rfl Try.func15 (by kernel_rfl) rfl #[.agg #[.int .i64 t387, .string t388]] rfl (by (try simp only [List.map_toArray, List.map_cons, List.map_nil]); first | done | rfl | (simp only [List.length_drop, List.length_take]; rfl)) ?_; (with_reducible refine (impl_Needs.calls kj31 t387 t388 t418 _ A78.out).mono ?_); rintro e w100 ⟨v419, rfl, ho0, hb⟩; refine ⟨_, rfl, ?_⟩; have n0_ := Aside0.mk (Kd.R_lower ho0 (below_size (by repeat (first | (with_reducible first | exact HB.out | apply below_alloc | apply pw_below_drewN | apply below_drew1 | refine below_set ?_ GE389.out | refine below_set ?_ GE409.out | refine below_set ?_ GE413.out) | exact HB.out)))); have n1_ := bb BK389 hb; have n2_ := bb BK409 hb; have n3_ := bb BK413 hb; have n4_ := bs HB hb; clear BK389; clear BK409; clear BK413; clear HB; have HO420 := n0_; have BK389 := n1_; have BK409 := n2_; have BK413 := n3_; have HB := n4_; clear n0_ n1_ n2_ n3_ n4_; (try clear hb); (try clear hb2); (try clear hk); (try clear hi); (try clear ho0); obtain ⟨Ao101, co101, eo101⟩ := Kd.R_slice HO420.out; subst eo101; have hnb102 := NB409_413.out; have hnc102 := NB413_409.out; have hcz103_0 : w100.cell? ⟨gb409, 0, none⟩ = some (.int .i64 t406) := (blk_cell BK409.out 0).trans rfl; have hcz103_1 : w100.cell? ⟨gb409, 1, none⟩ = some (.string t407) := (blk_cell BK409.out 1).trans rfl; have hfz103_0 := blk_frozen BK409.out 0; have hfz103_1 := blk_frozen BK409.out 1; have hcz104_0 : w100.cell? ⟨gb413, 0, none⟩ = some (.int .i64 t410) := (blk_cell BK413.out 0).trans rfl; have hcz104_1 : w100.cell? ⟨gb413, 1, none⟩ = some (.string t411) := (blk_cell BK413.out 1).trans rfl; have hfz104_0 := blk_frozen BK413.out 0; have hfz104_1 := blk_frozen BK413.out 1))
             go_ret
             exact ⟨by first | rfl | (simp [errW_none, errW_some] <;> rfl) | (simp [*, errW_none, errW_some] <;> rfl) | (simp [errW_none, errW_some, show t418 = [] from by simpa using c79b0]; done) | (simp [*, show t418 = [] from by simpa using c79b0]; done) | (simp [errW_none, errW_some, show t418 = [] from by simpa using c79b0] <;> rfl), by repeat (first | (with_reducible first | exact HB.out | apply below_alloc | apply pw_below_drewN | apply below_drew1 | refine below_set ?_ GE389.out | refine below_set ?_ GE409.out | refine below_set ?_ GE413.out) | exact HB.out)⟩
            ·rw [if_neg c93] at H
             have c93b0 : (false == (!(t406 == t410) || (!(t407.toList == t411.toList)))) = false := by simpa using c93
             (try (have c93b1 : decide (false = (!(t406 == t410) || (!(t407.toList == t411.toList)))) = false := by simpa using c93))
             (try (have c93b2 : (false == (!(t406 == t410) || (!(t407.toList == t411.toList)))) = false := by simpa using c93))
             (try (have c93b3 : ¬ (false = (!(t406 == t410) || (!(t407.toList == t411.toList)))) := by simpa using c93))
             clear c93
             exact absurd ((Option.some.inj H).trans HT.out) (by decide)
          ·rw [if_neg c77] at H
           have c77b0 : (t397 == t416) = false := beq_eq_false_iff_ne.mpr c77
           have c77b1 : (t397 != t416) = true := bne_iff_ne.mpr c77
           exact absurd ((Option.some.inj H).trans HT.out) (by decide)
         ·rw [if_neg c76] at H
          have c76b0 : decide (0 ≤ t397) = false := decide_eq_false c76
          have c76e0 : (t416 == t417) = false := by have h_ := c75b2; rw [show decide (t397 ≥ 0) = false from c76b0] at h_; revert h_; cases (t416 == t417) <;> decide
          have c76e1 : (t416 = t417) = False := by first | exact eq_true (beq_iff_eq.1 c76e0) | exact eq_false (fun h_ => by rw [h_] at c76e0; simp at c76e0)
          clear c76
          replace H := Option.bind_eq_some_iff.mp H
          obtain ⟨t422, A1050, H⟩ := H
          replace H : (if (t422.length : Int) > 0 then (if 0 < (t422.length : Int) then (if (((rd t422 0) == 0) == (!(t406 == t410) || (!(t407.toList == t411.toList)))) = true then (some ((decide (t397 ≥ 0)) == ((t422.length : Int) == 0))) else (some false)) else (none)) else (if (false == (!(t406 == t410) || (!(t407.toList == t411.toList)))) = true then (some ((decide (t397 ≥ 0)) == ((t422.length : Int) == 0))) else (some false))) = some r := H
          have A105 := Aside0.mk A1050
          clear A1050
          by_cases c106 : (t422.length : Int) > 0
          ·rw [if_pos c106] at H
           have c106b0 : decide (0 < (t422.length : Int)) = true := decide_eq_true c106
           have c106b1 : decide (0 < t422.length) = true := decide_eq_true (by omega)
           clear c106
           by_cases c107 : 0 < (t422.length : Int)
           ·rw [if_pos c107] at H
            have c107b0 : decide (0 < (t422.length : Int)) = true := decide_eq_true c107
            have c107b1 : decide (0 < t422.length) = true := decide_eq_true (by omega)
            clear c107
            by_cases c108 : (((rd t422 0) == 0) == (!(t406 == t410) || (!(t407.toList == t411.toList)))) = true
            ·rw [if_pos c108] at H
             have c108b0 : (((rd t422 0) == 0) == (!(t406 == t410) || (!(t407.toList == t411.toList)))) = true := c108
             (try (have c108b1 : decide (((rd t422 0) == 0) = (!(t406 == t410) || (!(t407.toList == t411.toList)))) = true := by simpa using c108))
             (try (have c108b2 : (((rd t422 0) == 0) == (!(t406 == t410) || (!(t407.toList == t411.toList)))) = true := by simpa using c108))
             clear c108
             obtain rfl := Option.some.inj H
             try go_wp2
             have n0_ := Aside0.mk (blk_drew BK389.out)
             have n1_ := Aside0.mk (blk_drew BK409.out)
             have n2_ := Aside0.mk (blk_drew BK413.out)
             have n3_ := Aside0.mk (below_drew1 HB.out)
             clear BK389
             clear BK409
             clear BK413
             clear HB
             have BK389 := n0_
             have BK409 := n1_
             have BK413 := n2_
             have HB := n3_
             clear n0_ n1_ n2_ n3_
             refine start_ (n := 6) (S := fun w' => w'.cell? ⟨gb409, 0, none⟩ = some (.int .i64 t406) ∧ w'.cell? ⟨gb409, 1, none⟩ = some (.string t407) ∧ w'.cell? ⟨gb413, 0, none⟩ = some (.int .i64 t410) ∧ w'.cell? ⟨gb413, 1, none⟩ = some (.string t411)) (ds := []) #[false, false, false, false, false, false] (by kernel_rfl) rfl rfl ⟨(blk_cell BK409.out 0).trans rfl, (blk_cell BK409.out 1).trans rfl, (blk_cell BK413.out 0).trans rfl, (blk_cell BK413.out 1).trans rfl⟩ (fun hHeld => ?_)
             generalize wc.drew = w109 at BK389 BK409 BK413 HB hHeld ⊢
             refine take_ (i := 0) (N := some 110) (v := ?_) (a' := ?_) #[true, false, false, false, false, false] rfl rfl (by kernel_rfl) (fun _ _ _ h => h) (Or.inl ⟨by rfl, ?_⟩) hHeld ?_ ?_
             rotate_left
             ·rintro w' ⟨s0, s1, s2, s3⟩
              go_simp
              with_reducible rfl
             rotate_left
             ·simp only [Act.put, List.setIfInBounds_toArray, List.set_cons_zero, List.set_cons_succ, i64_w, i32_w]
              rfl
             refine take_ (i := 2) (N := some 112) (v := ?_) (a' := ?_) #[true, false, true, false, false, false] rfl rfl (by kernel_rfl) (fun _ _ _ h => h) (Or.inl ⟨by rfl, ?_⟩) hHeld ?_ ?_
             rotate_left
             ·rintro w' ⟨s0, s1, s2, s3⟩
              go_simp
              with_reducible rfl
             rotate_left
             ·simp only [Act.put, List.setIfInBounds_toArray, List.set_cons_zero, List.set_cons_succ, i64_w, i32_w]
              rfl
             refine one_ (i := 1) (N := some 111) #[true, true, true, false, false, false] rfl rfl (by kernel_rfl) (by decide) (fun K hK => ?_)
             refine goes_ Try.func17 (by kernel_rfl) rfl #[.agg #[.int .i64 t406, .string t407]] (by rfl) rfl rfl (by (try simp only [List.map_toArray, List.map_cons, List.map_nil]); first | done | rfl | (simp only [List.length_drop, List.length_take]; rfl)) ?_
             with_reducible refine (impl_Known.calls kj31 t406 t407 t416 _ A72.out).mono ?_
             rintro e w110 ⟨rfl, hb⟩
             refine ⟨_, rfl, ?_⟩
             have n0_ := bb BK389 hb
             have n1_ := bb BK409 hb
             have n2_ := bb BK413 hb
             have n3_ := bs HB hb
             clear BK389
             clear BK409
             clear BK413
             clear HB
             have BK389 := n0_
             have BK409 := n1_
             have BK413 := n2_
             have HB := n3_
             clear n0_ n1_ n2_ n3_
             (try clear hb)
             (try clear hb2)
             (try clear hk)
             (try clear hi)
             refine hK.out _ _ ⟨(blk_cell BK409.out 0).trans rfl, (blk_cell BK409.out 1).trans rfl, (blk_cell BK413.out 0).trans rfl, (blk_cell BK413.out 1).trans rfl⟩ (fun hHeld => ?_)
             clear hK K
             refine norm_ (a' := ?_) ?_ ?_
             rotate_left
             ·show Act.put _ (some 111) _ = _
              simp only [Act.put, List.setIfInBounds_toArray, List.set_cons_zero, List.set_cons_succ, i64_w, i32_w]
              rfl
             refine one_ (i := 3) (N := some 113) #[true, true, true, true, false, false] rfl rfl (by kernel_rfl) (by decide) (fun K hK => ?_)
             refine goes_ Try.func17 (by kernel_rfl) rfl #[.agg #[.int .i64 t410, .string t411]] (by rfl) rfl rfl (by (try simp only [List.map_toArray, List.map_cons, List.map_nil]); first | done | rfl | (simp only [List.length_drop, List.length_take]; rfl)) ?_
             with_reducible refine (impl_Known.calls kj31 t410 t411 t417 _ A73.out).mono ?_
             rintro e w111 ⟨rfl, hb⟩
             refine ⟨_, rfl, ?_⟩
             have n0_ := bb BK389 hb
             have n1_ := bb BK409 hb
             have n2_ := bb BK413 hb
             have n3_ := bs HB hb
             clear BK389
             clear BK409
             clear BK413
             clear HB
             have BK389 := n0_
             have BK409 := n1_
             have BK413 := n2_
             have HB := n3_
             clear n0_ n1_ n2_ n3_
             (try clear hb)
             (try clear hb2)
             (try clear hk)
             (try clear hi)
             refine hK.out _ _ ⟨(blk_cell BK409.out 0).trans rfl, (blk_cell BK409.out 1).trans rfl, (blk_cell BK413.out 0).trans rfl, (blk_cell BK413.out 1).trans rfl⟩ (fun hHeld => ?_)
             clear hK K
             refine norm_ (a' := ?_) ?_ ?_
             rotate_left
             ·show Act.put _ (some 113) _ = _
              simp only [Act.put, List.setIfInBounds_toArray, List.set_cons_zero, List.set_cons_succ, i64_w, i32_w]
              rfl
             refine pure_ (i := 4) (N := some 12) (v := ?_) (a' := ?_) #[true, true, true, true, true, false] rfl rfl (by kernel_rfl) (fun _ _ _ h => h) (Or.inl ⟨by rfl, ?_⟩) ?_ ?_
             rotate_left
             ·intro w'
              go_simp
              with_reducible rfl
             rotate_left
             ·simp only [Act.put, List.setIfInBounds_toArray, List.set_cons_zero, List.set_cons_succ, i64_w, i32_w]
              rfl
             refine pure_ (i := 5) (N := some 13) (v := ?_) (a' := ?_) #[true, true, true, true, true, true] rfl rfl (by kernel_rfl) (fun _ _ _ h => h) (Or.inl ⟨by rfl, ?_⟩) ?_ ?_
             rotate_left
             ·intro w'
              go_simp
              with_reducible rfl
             rotate_left
             ·simp only [Act.put, List.setIfInBounds_toArray, List.set_cons_zero, List.set_cons_succ, i64_w, i32_w]
              rfl
             refine done_ (by kernel_rfl) ?_
             have hnb112 := NB389_409.out
             have hnc112 := NB409_389.out
             have hnb113 := NB389_413.out
             have hnc113 := NB413_389.out
             have hcz114_0 : w111.cell? ⟨gb389, 0, none⟩ = some (.int .i64 t387) := (blk_cell BK389.out 0).trans rfl
             have hcz114_1 : w111.cell? ⟨gb389, 1, none⟩ = some (.string t388) := (blk_cell BK389.out 1).trans rfl
             have hfz114_0 := blk_frozen BK389.out 0
             have hfz114_1 := blk_frozen BK389.out 1
             try go_wp2_with (first | ((with_reducible refine gate_callee (f := 15) rfl ?_); refine goesL_ (some 134) rfl rfl Try.func15 (by kernel_rfl) rfl #[.agg #[.int .i64 t387, .string t388]] rfl (by (try simp only [List.map_toArray, List.map_cons, List.map_nil]); first | done | rfl | (simp only [List.length_drop, List.length_take]; rfl)) ?_; (with_reducible refine (impl_Needs.calls kj31 t387 t388 t422 _ A105.out).mono ?_); rintro e w115 ⟨v423, rfl, ho0, hb⟩; refine ⟨_, rfl, ?_⟩; have n0_ := Aside0.mk (Kd.R_lower ho0 (below_size (by repeat (first | (with_reducible first | exact HB.out | apply below_alloc | apply pw_below_drewN | apply below_drew1 | refine below_set ?_ GE389.out | refine below_set ?_ GE409.out | refine below_set ?_ GE413.out) | exact HB.out)))); have n1_ := bb BK389 hb; have n2_ := bb BK409 hb; have n3_ := bb BK413 hb; have n4_ := bs HB hb; clear BK389; clear BK409; clear BK413; clear HB; have HO424 := n0_; have BK389 := n1_; have BK409 := n2_; have BK413 := n3_; have HB := n4_; clear n0_ n1_ n2_ n3_ n4_; (try clear hb); (try clear hb2); (try clear hk); (try clear hi); (try clear ho0); obtain ⟨Ao116, co116, eo116⟩ := Kd.R_slice HO424.out; subst eo116; have p425 : 0 ≤ (0 : Int) := (by omega); have q425 : 0 < (t422.length : Int) := of_decide_eq_true (by first | (with_reducible assumption) | assumption); obtain ⟨ad425, e425, hx425_0⟩ := Kd.at_int (Kd.R_reads' HO424.out).2.2 0 p425 q425; cases e425; have qi425 : (0 < t422.length) = True := eq_true (by omega); (try rw [show ((0 : Int)).toNat = 0 from rfl] at hx425_0); (try rw [Addr.add_zero'] at hx425_0); replace p425 := eq_true p425; replace q425 := eq_true q425; have hnb117 := NB409_413.out; have hnc117 := NB413_409.out; have hcz118_0 : w115.cell? ⟨gb409, 0, none⟩ = some (.int .i64 t406) := (blk_cell BK409.out 0).trans rfl; have hcz118_1 : w115.cell? ⟨gb409, 1, none⟩ = some (.string t407) := (blk_cell BK409.out 1).trans rfl; have hfz118_0 := blk_frozen BK409.out 0; have hfz118_1 := blk_frozen BK409.out 1; have hcz119_0 : w115.cell? ⟨gb413, 0, none⟩ = some (.int .i64 t410) := (blk_cell BK413.out 0).trans rfl; have hcz119_1 : w115.cell? ⟨gb413, 1, none⟩ = some (.string t411) := (blk_cell BK413.out 1).trans rfl; have hfz119_0 := blk_frozen BK413.out 0; have hfz119_1 := blk_frozen BK413.out 1))
             go_ret
             exact ⟨by first | rfl | (simp [errW_none, errW_some] <;> rfl) | (simp [*, errW_none, errW_some] <;> rfl) | (simp [errW_none, errW_some, show ¬ t422 = [] from by intro h_; rw [h_] at c106b0; simp at c106b0, show ¬ t422 = [] from by intro h_; rw [h_] at c107b0; simp at c107b0]; done) | (simp [*, show ¬ t422 = [] from by intro h_; rw [h_] at c106b0; simp at c106b0, show ¬ t422 = [] from by intro h_; rw [h_] at c107b0; simp at c107b0]; done) | (simp [errW_none, errW_some, show ¬ t422 = [] from by intro h_; rw [h_] at c106b0; simp at c106b0, show ¬ t422 = [] from by intro h_; rw [h_] at c107b0; simp at c107b0] <;> rfl), by repeat (first | (with_reducible first | exact HB.out | apply below_alloc | apply pw_below_drewN | apply below_drew1 | refine below_set ?_ GE389.out | refine below_set ?_ GE409.out | refine below_set ?_ GE413.out) | exact HB.out)⟩
            ·rw [if_neg c108] at H
             have c108b0 : (((rd t422 0) == 0) == (!(t406 == t410) || (!(t407.toList == t411.toList)))) = false := by simpa using c108
             (try (have c108b1 : decide (((rd t422 0) == 0) = (!(t406 == t410) || (!(t407.toList == t411.toList)))) = false := by simpa using c108))
             (try (have c108b2 : (((rd t422 0) == 0) == (!(t406 == t410) || (!(t407.toList == t411.toList)))) = false := by simpa using c108))
             (try (have c108b3 : ¬ (((rd t422 0) == 0) = (!(t406 == t410) || (!(t407.toList == t411.toList)))) := by simpa using c108))
             clear c108
             exact absurd ((Option.some.inj H).trans HT.out) (by decide)
           ·rw [if_neg c107] at H
            exact absurd H (by simp)
          ·rw [if_neg c106] at H
           have c106b0 : decide (0 < (t422.length : Int)) = false := decide_eq_false c106
           have c106b1 : decide (0 < t422.length) = false := decide_eq_false (by omega)
           clear c106
           by_cases c120 : (false == (!(t406 == t410) || (!(t407.toList == t411.toList)))) = true
           ·rw [if_pos c120] at H
            have c120b0 : (false == (!(t406 == t410) || (!(t407.toList == t411.toList)))) = true := c120
            (try (have c120b1 : decide (false = (!(t406 == t410) || (!(t407.toList == t411.toList)))) = true := by simpa using c120))
            (try (have c120b2 : (false == (!(t406 == t410) || (!(t407.toList == t411.toList)))) = true := by simpa using c120))
            clear c120
            obtain rfl := Option.some.inj H
            try go_wp2
            have n0_ := Aside0.mk (blk_drew BK389.out)
            have n1_ := Aside0.mk (blk_drew BK409.out)
            have n2_ := Aside0.mk (blk_drew BK413.out)
            have n3_ := Aside0.mk (below_drew1 HB.out)
            clear BK389
            clear BK409
            clear BK413
            clear HB
            have BK389 := n0_
            have BK409 := n1_
            have BK413 := n2_
            have HB := n3_
            clear n0_ n1_ n2_ n3_
            refine start_ (n := 6) (S := fun w' => w'.cell? ⟨gb409, 0, none⟩ = some (.int .i64 t406) ∧ w'.cell? ⟨gb409, 1, none⟩ = some (.string t407) ∧ w'.cell? ⟨gb413, 0, none⟩ = some (.int .i64 t410) ∧ w'.cell? ⟨gb413, 1, none⟩ = some (.string t411)) (ds := []) #[false, false, false, false, false, false] (by kernel_rfl) rfl rfl ⟨(blk_cell BK409.out 0).trans rfl, (blk_cell BK409.out 1).trans rfl, (blk_cell BK413.out 0).trans rfl, (blk_cell BK413.out 1).trans rfl⟩ (fun hHeld => ?_)
            generalize wc.drew = w121 at BK389 BK409 BK413 HB hHeld ⊢
            refine take_ (i := 0) (N := some 110) (v := ?_) (a' := ?_) #[true, false, false, false, false, false] rfl rfl (by kernel_rfl) (fun _ _ _ h => h) (Or.inl ⟨by rfl, ?_⟩) hHeld ?_ ?_
            rotate_left
            ·rintro w' ⟨s0, s1, s2, s3⟩
             go_simp
             with_reducible rfl
            rotate_left
            ·simp only [Act.put, List.setIfInBounds_toArray, List.set_cons_zero, List.set_cons_succ, i64_w, i32_w]
             rfl
            refine take_ (i := 2) (N := some 112) (v := ?_) (a' := ?_) #[true, false, true, false, false, false] rfl rfl (by kernel_rfl) (fun _ _ _ h => h) (Or.inl ⟨by rfl, ?_⟩) hHeld ?_ ?_
            rotate_left
            ·rintro w' ⟨s0, s1, s2, s3⟩
             go_simp
             with_reducible rfl
            rotate_left
            ·simp only [Act.put, List.setIfInBounds_toArray, List.set_cons_zero, List.set_cons_succ, i64_w, i32_w]
             rfl
            refine one_ (i := 1) (N := some 111) #[true, true, true, false, false, false] rfl rfl (by kernel_rfl) (by decide) (fun K hK => ?_)
            refine goes_ Try.func17 (by kernel_rfl) rfl #[.agg #[.int .i64 t406, .string t407]] (by rfl) rfl rfl (by (try simp only [List.map_toArray, List.map_cons, List.map_nil]); first | done | rfl | (simp only [List.length_drop, List.length_take]; rfl)) ?_
            with_reducible refine (impl_Known.calls kj31 t406 t407 t416 _ A72.out).mono ?_
            rintro e w122 ⟨rfl, hb⟩
            refine ⟨_, rfl, ?_⟩
            have n0_ := bb BK389 hb
            have n1_ := bb BK409 hb
            have n2_ := bb BK413 hb
            have n3_ := bs HB hb
            clear BK389
            clear BK409
            clear BK413
            clear HB
            have BK389 := n0_
            have BK409 := n1_
            have BK413 := n2_
            have HB := n3_
            clear n0_ n1_ n2_ n3_
            (try clear hb)
            (try clear hb2)
            (try clear hk)
            (try clear hi)
            refine hK.out _ _ ⟨(blk_cell BK409.out 0).trans rfl, (blk_cell BK409.out 1).trans rfl, (blk_cell BK413.out 0).trans rfl, (blk_cell BK413.out 1).trans rfl⟩ (fun hHeld => ?_)
            clear hK K
            refine norm_ (a' := ?_) ?_ ?_
            rotate_left
            ·show Act.put _ (some 111) _ = _
             simp only [Act.put, List.setIfInBounds_toArray, List.set_cons_zero, List.set_cons_succ, i64_w, i32_w]
             rfl
            refine one_ (i := 3) (N := some 113) #[true, true, true, true, false, false] rfl rfl (by kernel_rfl) (by decide) (fun K hK => ?_)
            refine goes_ Try.func17 (by kernel_rfl) rfl #[.agg #[.int .i64 t410, .string t411]] (by rfl) rfl rfl (by (try simp only [List.map_toArray, List.map_cons, List.map_nil]); first | done | rfl | (simp only [List.length_drop, List.length_take]; rfl)) ?_
            with_reducible refine (impl_Known.calls kj31 t410 t411 t417 _ A73.out).mono ?_
            rintro e w123 ⟨rfl, hb⟩
            refine ⟨_, rfl, ?_⟩
            have n0_ := bb BK389 hb
            have n1_ := bb BK409 hb
            have n2_ := bb BK413 hb
            have n3_ := bs HB hb
            clear BK389
            clear BK409
            clear BK413
            clear HB
            have BK389 := n0_
            have BK409 := n1_
            have BK413 := n2_
            have HB := n3_
            clear n0_ n1_ n2_ n3_
            (try clear hb)
            (try clear hb2)
            (try clear hk)
            (try clear hi)
            refine hK.out _ _ ⟨(blk_cell BK409.out 0).trans rfl, (blk_cell BK409.out 1).trans rfl, (blk_cell BK413.out 0).trans rfl, (blk_cell BK413.out 1).trans rfl⟩ (fun hHeld => ?_)
            clear hK K
            refine norm_ (a' := ?_) ?_ ?_
            rotate_left
            ·show Act.put _ (some 113) _ = _
             simp only [Act.put, List.setIfInBounds_toArray, List.set_cons_zero, List.set_cons_succ, i64_w, i32_w]
             rfl
            refine pure_ (i := 4) (N := some 12) (v := ?_) (a' := ?_) #[true, true, true, true, true, false] rfl rfl (by kernel_rfl) (fun _ _ _ h => h) (Or.inl ⟨by rfl, ?_⟩) ?_ ?_
            rotate_left
            ·intro w'
             go_simp
             with_reducible rfl
            rotate_left
            ·simp only [Act.put, List.setIfInBounds_toArray, List.set_cons_zero, List.set_cons_succ, i64_w, i32_w]
             rfl
            refine pure_ (i := 5) (N := some 13) (v := ?_) (a' := ?_) #[true, true, true, true, true, true] rfl rfl (by kernel_rfl) (fun _ _ _ h => h) (Or.inl ⟨by rfl, ?_⟩) ?_ ?_
            rotate_left
            ·intro w'
             go_simp
             with_reducible rfl
            rotate_left
            ·simp only [Act.put, List.setIfInBounds_toArray, List.set_cons_zero, List.set_cons_succ, i64_w, i32_w]
             rfl
            refine done_ (by kernel_rfl) ?_
            have hnb124 := NB389_409.out
            have hnc124 := NB409_389.out
            have hnb125 := NB389_413.out
            have hnc125 := NB413_389.out
            have hcz126_0 : w123.cell? ⟨gb389, 0, none⟩ = some (.int .i64 t387) := (blk_cell BK389.out 0).trans rfl
            have hcz126_1 : w123.cell? ⟨gb389, 1, none⟩ = some (.string t388) := (blk_cell BK389.out 1).trans rfl
            have hfz126_0 := blk_frozen BK389.out 0
            have hfz126_1 := blk_frozen BK389.out 1
            try go_wp2_with (first | ((with_reducible refine gate_callee (f := 15) rfl ?_); refine goesL_ (some 134) rfl rfl Try.func15 (by kernel_rfl) rfl #[.agg #[.int .i64 t387, .string t388]] rfl (by (try simp only [List.map_toArray, List.map_cons, List.map_nil]); first | done | rfl | (simp only [List.length_drop, List.length_take]; rfl)) ?_; (with_reducible refine (impl_Needs.calls kj31 t387 t388 t422 _ A105.out).mono ?_); rintro e w127 ⟨v423, rfl, ho0, hb⟩; refine ⟨_, rfl, ?_⟩; have n0_ := Aside0.mk (Kd.R_lower ho0 (below_size (by repeat (first | (with_reducible first | exact HB.out | apply below_alloc | apply pw_below_drewN | apply below_drew1 | refine below_set ?_ GE389.out | refine below_set ?_ GE409.out | refine below_set ?_ GE413.out) | exact HB.out)))); have n1_ := bb BK389 hb; have n2_ := bb BK409 hb; have n3_ := bb BK413 hb; have n4_ := bs HB hb; clear BK389; clear BK409; clear BK413; clear HB; have HO424 := n0_; have BK389 := n1_; have BK409 := n2_; have BK413 := n3_; have HB := n4_; clear n0_ n1_ n2_ n3_ n4_; (try clear hb); (try clear hb2); (try clear hk); (try clear hi); (try clear ho0); obtain ⟨Ao128, co128, eo128⟩ := Kd.R_slice HO424.out; subst eo128; have hnb129 := NB409_413.out; have hnc129 := NB413_409.out; have hcz130_0 : w127.cell? ⟨gb409, 0, none⟩ = some (.int .i64 t406) := (blk_cell BK409.out 0).trans rfl; have hcz130_1 : w127.cell? ⟨gb409, 1, none⟩ = some (.string t407) := (blk_cell BK409.out 1).trans rfl; have hfz130_0 := blk_frozen BK409.out 0; have hfz130_1 := blk_frozen BK409.out 1; have hcz131_0 : w127.cell? ⟨gb413, 0, none⟩ = some (.int .i64 t410) := (blk_cell BK413.out 0).trans rfl; have hcz131_1 : w127.cell? ⟨gb413, 1, none⟩ = some (.string t411) := (blk_cell BK413.out 1).trans rfl; have hfz131_0 := blk_frozen BK413.out 0; have hfz131_1 := blk_frozen BK413.out 1))
            go_ret
            exact ⟨by first | rfl | (simp [errW_none, errW_some] <;> rfl) | (simp [*, errW_none, errW_some] <;> rfl) | (simp [errW_none, errW_some, show t422 = [] from by simpa using c106b0]; done) | (simp [*, show t422 = [] from by simpa using c106b0]; done) | (simp [errW_none, errW_some, show t422 = [] from by simpa using c106b0] <;> rfl), by repeat (first | (with_reducible first | exact HB.out | apply below_alloc | apply pw_below_drewN | apply below_drew1 | refine below_set ?_ GE389.out | refine below_set ?_ GE409.out | refine below_set ?_ GE413.out) | exact HB.out)⟩
           ·rw [if_neg c120] at H
            have c120b0 : (false == (!(t406 == t410) || (!(t407.toList == t411.toList)))) = false := by simpa using c120
            (try (have c120b1 : decide (false = (!(t406 == t410) || (!(t407.toList == t411.toList)))) = false := by simpa using c120))
            (try (have c120b2 : (false == (!(t406 == t410) || (!(t407.toList == t411.toList)))) = false := by simpa using c120))
            (try (have c120b3 : ¬ (false = (!(t406 == t410) || (!(t407.toList == t411.toList)))) := by simpa using c120))
            clear c120
            exact absurd ((Option.some.inj H).trans HT.out) (by decide)
       ·rw [if_neg c74] at H
        have c74b0 : decide (0 ≤ t416) = false := decide_eq_false c74
        clear c74
        by_cases c132 : ((decide (t397 ≥ 0)) != false) = true
        ·rw [if_pos c132] at H
         have c132b0 : ((decide (t397 ≥ 0)) != false) = true := c132
         (try (have c132b1 : decide ((decide (t397 ≥ 0)) = false) = false := by simpa using c132))
         (try (have c132b2 : ((decide (t397 ≥ 0)) == false) = false := by simpa using c132))
         (try (have c132b3 : ¬ ((decide (t397 ≥ 0)) = false) := by simpa using c132))
         clear c132
         exact absurd ((Option.some.inj H).trans HT.out) (by decide)
        ·rw [if_neg c132] at H
         have c132b0 : ((decide (t397 ≥ 0)) != false) = false := by simpa using c132
         (try (have c132b1 : decide ((decide (t397 ≥ 0)) = false) = true := by simpa using c132))
         (try (have c132b2 : ((decide (t397 ≥ 0)) == false) = true := by simpa using c132))
         clear c132
         by_cases c133 : t397 ≥ 0
         ·rw [if_pos c133] at H
          have c133b0 : decide (0 ≤ t397) = true := decide_eq_true c133
          clear c133
          by_cases c134 : t397 = t416
          ·rw [if_pos c134] at H
           have c134b0 : (t397 == t416) = true := beq_iff_eq.mpr c134
           have c134b1 : (t397 != t416) = false := bne_eq_false_iff_eq.mpr c134
           clear c134
           replace H := Option.bind_eq_some_iff.mp H
           obtain ⟨t426, A1350, H⟩ := H
           replace H : (if (t426.length : Int) > 0 then (if 0 < (t426.length : Int) then (if (((rd t426 0) == 0) == (!(t406 == t410) || (!(t407.toList == t411.toList)))) = true then (some ((decide (t397 ≥ 0)) == ((t426.length : Int) == 0))) else (some false)) else (none)) else (if (false == (!(t406 == t410) || (!(t407.toList == t411.toList)))) = true then (some ((decide (t397 ≥ 0)) == ((t426.length : Int) == 0))) else (some false))) = some r := H
           have A135 := Aside0.mk A1350
           clear A1350
           by_cases c136 : (t426.length : Int) > 0
           ·rw [if_pos c136] at H
            have c136b0 : decide (0 < (t426.length : Int)) = true := decide_eq_true c136
            have c136b1 : decide (0 < t426.length) = true := decide_eq_true (by omega)
            clear c136
            by_cases c137 : 0 < (t426.length : Int)
            ·rw [if_pos c137] at H
             have c137b0 : decide (0 < (t426.length : Int)) = true := decide_eq_true c137
             have c137b1 : decide (0 < t426.length) = true := decide_eq_true (by omega)
             clear c137
             by_cases c138 : (((rd t426 0) == 0) == (!(t406 == t410) || (!(t407.toList == t411.toList)))) = true
             ·rw [if_pos c138] at H
              have c138b0 : (((rd t426 0) == 0) == (!(t406 == t410) || (!(t407.toList == t411.toList)))) = true := c138
              (try (have c138b1 : decide (((rd t426 0) == 0) = (!(t406 == t410) || (!(t407.toList == t411.toList)))) = true := by simpa using c138))
              (try (have c138b2 : (((rd t426 0) == 0) == (!(t406 == t410) || (!(t407.toList == t411.toList)))) = true := by simpa using c138))
              clear c138
              obtain rfl := Option.some.inj H
              try go_wp2
              have n0_ := Aside0.mk (blk_drew BK389.out)
              have n1_ := Aside0.mk (blk_drew BK409.out)
              have n2_ := Aside0.mk (blk_drew BK413.out)
              have n3_ := Aside0.mk (below_drew1 HB.out)
              clear BK389
              clear BK409
              clear BK413
              clear HB
              have BK389 := n0_
              have BK409 := n1_
              have BK413 := n2_
              have HB := n3_
              clear n0_ n1_ n2_ n3_
              refine start_ (n := 6) (S := fun w' => w'.cell? ⟨gb409, 0, none⟩ = some (.int .i64 t406) ∧ w'.cell? ⟨gb409, 1, none⟩ = some (.string t407) ∧ w'.cell? ⟨gb413, 0, none⟩ = some (.int .i64 t410) ∧ w'.cell? ⟨gb413, 1, none⟩ = some (.string t411)) (ds := []) #[false, false, false, false, false, false] (by kernel_rfl) rfl rfl ⟨(blk_cell BK409.out 0).trans rfl, (blk_cell BK409.out 1).trans rfl, (blk_cell BK413.out 0).trans rfl, (blk_cell BK413.out 1).trans rfl⟩ (fun hHeld => ?_)
              generalize wc.drew = w139 at BK389 BK409 BK413 HB hHeld ⊢
              refine take_ (i := 0) (N := some 110) (v := ?_) (a' := ?_) #[true, false, false, false, false, false] rfl rfl (by kernel_rfl) (fun _ _ _ h => h) (Or.inl ⟨by rfl, ?_⟩) hHeld ?_ ?_
              rotate_left
              ·rintro w' ⟨s0, s1, s2, s3⟩
               go_simp
               with_reducible rfl
              rotate_left
              ·simp only [Act.put, List.setIfInBounds_toArray, List.set_cons_zero, List.set_cons_succ, i64_w, i32_w]
               rfl
              refine take_ (i := 2) (N := some 112) (v := ?_) (a' := ?_) #[true, false, true, false, false, false] rfl rfl (by kernel_rfl) (fun _ _ _ h => h) (Or.inl ⟨by rfl, ?_⟩) hHeld ?_ ?_
              rotate_left
              ·rintro w' ⟨s0, s1, s2, s3⟩
               go_simp
               with_reducible rfl
              rotate_left
              ·simp only [Act.put, List.setIfInBounds_toArray, List.set_cons_zero, List.set_cons_succ, i64_w, i32_w]
               rfl
              refine one_ (i := 1) (N := some 111) #[true, true, true, false, false, false] rfl rfl (by kernel_rfl) (by decide) (fun K hK => ?_)
              refine goes_ Try.func17 (by kernel_rfl) rfl #[.agg #[.int .i64 t406, .string t407]] (by rfl) rfl rfl (by (try simp only [List.map_toArray, List.map_cons, List.map_nil]); first | done | rfl | (simp only [List.length_drop, List.length_take]; rfl)) ?_
              with_reducible refine (impl_Known.calls kj31 t406 t407 t416 _ A72.out).mono ?_
              rintro e w140 ⟨rfl, hb⟩
              refine ⟨_, rfl, ?_⟩
              have n0_ := bb BK389 hb
              have n1_ := bb BK409 hb
              have n2_ := bb BK413 hb
              have n3_ := bs HB hb
              clear BK389
              clear BK409
              clear BK413
              clear HB
              have BK389 := n0_
              have BK409 := n1_
              have BK413 := n2_
              have HB := n3_
              clear n0_ n1_ n2_ n3_
              (try clear hb)
              (try clear hb2)
              (try clear hk)
              (try clear hi)
              refine hK.out _ _ ⟨(blk_cell BK409.out 0).trans rfl, (blk_cell BK409.out 1).trans rfl, (blk_cell BK413.out 0).trans rfl, (blk_cell BK413.out 1).trans rfl⟩ (fun hHeld => ?_)
              clear hK K
              refine norm_ (a' := ?_) ?_ ?_
              rotate_left
              ·show Act.put _ (some 111) _ = _
               simp only [Act.put, List.setIfInBounds_toArray, List.set_cons_zero, List.set_cons_succ, i64_w, i32_w]
               rfl
              refine one_ (i := 3) (N := some 113) #[true, true, true, true, false, false] rfl rfl (by kernel_rfl) (by decide) (fun K hK => ?_)
              refine goes_ Try.func17 (by kernel_rfl) rfl #[.agg #[.int .i64 t410, .string t411]] (by rfl) rfl rfl (by (try simp only [List.map_toArray, List.map_cons, List.map_nil]); first | done | rfl | (simp only [List.length_drop, List.length_take]; rfl)) ?_
              with_reducible refine (impl_Known.calls kj31 t410 t411 t417 _ A73.out).mono ?_
              rintro e w141 ⟨rfl, hb⟩
              refine ⟨_, rfl, ?_⟩
              have n0_ := bb BK389 hb
              have n1_ := bb BK409 hb
              have n2_ := bb BK413 hb
              have n3_ := bs HB hb
              clear BK389
              clear BK409
              clear BK413
              clear HB
              have BK389 := n0_
              have BK409 := n1_
              have BK413 := n2_
              have HB := n3_
              clear n0_ n1_ n2_ n3_
              (try clear hb)
              (try clear hb2)
              (try clear hk)
              (try clear hi)
              refine hK.out _ _ ⟨(blk_cell BK409.out 0).trans rfl, (blk_cell BK409.out 1).trans rfl, (blk_cell BK413.out 0).trans rfl, (blk_cell BK413.out 1).trans rfl⟩ (fun hHeld => ?_)
              clear hK K
              refine norm_ (a' := ?_) ?_ ?_
              rotate_left
              ·show Act.put _ (some 113) _ = _
               simp only [Act.put, List.setIfInBounds_toArray, List.set_cons_zero, List.set_cons_succ, i64_w, i32_w]
               rfl
              refine pure_ (i := 4) (N := some 12) (v := ?_) (a' := ?_) #[true, true, true, true, true, false] rfl rfl (by kernel_rfl) (fun _ _ _ h => h) (Or.inl ⟨by rfl, ?_⟩) ?_ ?_
              rotate_left
              ·intro w'
               go_simp
               with_reducible rfl
              rotate_left
              ·simp only [Act.put, List.setIfInBounds_toArray, List.set_cons_zero, List.set_cons_succ, i64_w, i32_w]
               rfl
              refine pure_ (i := 5) (N := some 13) (v := ?_) (a' := ?_) #[true, true, true, true, true, true] rfl rfl (by kernel_rfl) (fun _ _ _ h => h) (Or.inl ⟨by rfl, ?_⟩) ?_ ?_
              rotate_left
              ·intro w'
               go_simp
               with_reducible rfl
              rotate_left
              ·simp only [Act.put, List.setIfInBounds_toArray, List.set_cons_zero, List.set_cons_succ, i64_w, i32_w]
               rfl
              refine done_ (by kernel_rfl) ?_
              have hnb142 := NB389_409.out
              have hnc142 := NB409_389.out
              have hnb143 := NB389_413.out
              have hnc143 := NB413_389.out
              have hcz144_0 : w141.cell? ⟨gb389, 0, none⟩ = some (.int .i64 t387) := (blk_cell BK389.out 0).trans rfl
              have hcz144_1 : w141.cell? ⟨gb389, 1, none⟩ = some (.string t388) := (blk_cell BK389.out 1).trans rfl
              have hfz144_0 := blk_frozen BK389.out 0
              have hfz144_1 := blk_frozen BK389.out 1
              try go_wp2_with (first | ((with_reducible refine gate_callee (f := 15) rfl ?_); refine goesL_ (some 134) rfl rfl Try.func15 (by kernel_rfl) rfl #[.agg #[.int .i64 t387, .string t388]] rfl (by (try simp only [List.map_toArray, List.map_cons, List.map_nil]); first | done | rfl | (simp only [List.length_drop, List.length_take]; rfl)) ?_; (with_reducible refine (impl_Needs.calls kj31 t387 t388 t426 _ A135.out).mono ?_); rintro e w145 ⟨v427, rfl, ho0, hb⟩; refine ⟨_, rfl, ?_⟩; have n0_ := Aside0.mk (Kd.R_lower ho0 (below_size (by repeat (first | (with_reducible first | exact HB.out | apply below_alloc | apply pw_below_drewN | apply below_drew1 | refine below_set ?_ GE389.out | refine below_set ?_ GE409.out | refine below_set ?_ GE413.out) | exact HB.out)))); have n1_ := bb BK389 hb; have n2_ := bb BK409 hb; have n3_ := bb BK413 hb; have n4_ := bs HB hb; clear BK389; clear BK409; clear BK413; clear HB; have HO428 := n0_; have BK389 := n1_; have BK409 := n2_; have BK413 := n3_; have HB := n4_; clear n0_ n1_ n2_ n3_ n4_; (try clear hb); (try clear hb2); (try clear hk); (try clear hi); (try clear ho0); obtain ⟨Ao146, co146, eo146⟩ := Kd.R_slice HO428.out; subst eo146; have p429 : 0 ≤ (0 : Int) := (by omega); have q429 : 0 < (t426.length : Int) := of_decide_eq_true (by first | (with_reducible assumption) | assumption); obtain ⟨ad429, e429, hx429_0⟩ := Kd.at_int (Kd.R_reads' HO428.out).2.2 0 p429 q429; cases e429; have qi429 : (0 < t426.length) = True := eq_true (by omega); (try rw [show ((0 : Int)).toNat = 0 from rfl] at hx429_0); (try rw [Addr.add_zero'] at hx429_0); replace p429 := eq_true p429; replace q429 := eq_true q429; have hnb147 := NB409_413.out; have hnc147 := NB413_409.out; have hcz148_0 : w145.cell? ⟨gb409, 0, none⟩ = some (.int .i64 t406) := (blk_cell BK409.out 0).trans rfl; have hcz148_1 : w145.cell? ⟨gb409, 1, none⟩ = some (.string t407) := (blk_cell BK409.out 1).trans rfl; have hfz148_0 := blk_frozen BK409.out 0; have hfz148_1 := blk_frozen BK409.out 1; have hcz149_0 : w145.cell? ⟨gb413, 0, none⟩ = some (.int .i64 t410) := (blk_cell BK413.out 0).trans rfl; have hcz149_1 : w145.cell? ⟨gb413, 1, none⟩ = some (.string t411) := (blk_cell BK413.out 1).trans rfl; have hfz149_0 := blk_frozen BK413.out 0; have hfz149_1 := blk_frozen BK413.out 1))
              go_ret
              exact ⟨by first | rfl | (simp [errW_none, errW_some] <;> rfl) | (exfalso; have h_ := c132b2; have g_ := c133b0; simp at h_ g_; omega) | (simp [*, errW_none, errW_some] <;> rfl) | (simp [errW_none, errW_some, show ¬ t426 = [] from by intro h_; rw [h_] at c136b0; simp at c136b0, show ¬ t426 = [] from by intro h_; rw [h_] at c137b0; simp at c137b0]; done) | (simp [*, show ¬ t426 = [] from by intro h_; rw [h_] at c136b0; simp at c136b0, show ¬ t426 = [] from by intro h_; rw [h_] at c137b0; simp at c137b0]; done) | (simp [errW_none, errW_some, show ¬ t426 = [] from by intro h_; rw [h_] at c136b0; simp at c136b0, show ¬ t426 = [] from by intro h_; rw [h_] at c137b0; simp at c137b0] <;> rfl), by repeat (first | (with_reducible first | exact HB.out | apply below_alloc | apply pw_below_drewN | apply below_drew1 | refine below_set ?_ GE389.out | refine below_set ?_ GE409.out | refine below_set ?_ GE413.out) | exact HB.out)⟩
             ·rw [if_neg c138] at H
              have c138b0 : (((rd t426 0) == 0) == (!(t406 == t410) || (!(t407.toList == t411.toList)))) = false := by simpa using c138
              (try (have c138b1 : decide (((rd t426 0) == 0) = (!(t406 == t410) || (!(t407.toList == t411.toList)))) = false := by simpa using c138))
              (try (have c138b2 : (((rd t426 0) == 0) == (!(t406 == t410) || (!(t407.toList == t411.toList)))) = false := by simpa using c138))
              (try (have c138b3 : ¬ (((rd t426 0) == 0) = (!(t406 == t410) || (!(t407.toList == t411.toList)))) := by simpa using c138))
              clear c138
              exact absurd ((Option.some.inj H).trans HT.out) (by decide)
            ·rw [if_neg c137] at H
             exact absurd H (by simp)
           ·rw [if_neg c136] at H
            have c136b0 : decide (0 < (t426.length : Int)) = false := decide_eq_false c136
            have c136b1 : decide (0 < t426.length) = false := decide_eq_false (by omega)
            clear c136
            by_cases c150 : (false == (!(t406 == t410) || (!(t407.toList == t411.toList)))) = true
            ·rw [if_pos c150] at H
             have c150b0 : (false == (!(t406 == t410) || (!(t407.toList == t411.toList)))) = true := c150
             (try (have c150b1 : decide (false = (!(t406 == t410) || (!(t407.toList == t411.toList)))) = true := by simpa using c150))
             (try (have c150b2 : (false == (!(t406 == t410) || (!(t407.toList == t411.toList)))) = true := by simpa using c150))
             clear c150
             obtain rfl := Option.some.inj H
             try go_wp2
             have n0_ := Aside0.mk (blk_drew BK389.out)
             have n1_ := Aside0.mk (blk_drew BK409.out)
             have n2_ := Aside0.mk (blk_drew BK413.out)
             have n3_ := Aside0.mk (below_drew1 HB.out)
             clear BK389
             clear BK409
             clear BK413
             clear HB
             have BK389 := n0_
             have BK409 := n1_
             have BK413 := n2_
             have HB := n3_
             clear n0_ n1_ n2_ n3_
             refine start_ (n := 6) (S := fun w' => w'.cell? ⟨gb409, 0, none⟩ = some (.int .i64 t406) ∧ w'.cell? ⟨gb409, 1, none⟩ = some (.string t407) ∧ w'.cell? ⟨gb413, 0, none⟩ = some (.int .i64 t410) ∧ w'.cell? ⟨gb413, 1, none⟩ = some (.string t411)) (ds := []) #[false, false, false, false, false, false] (by kernel_rfl) rfl rfl ⟨(blk_cell BK409.out 0).trans rfl, (blk_cell BK409.out 1).trans rfl, (blk_cell BK413.out 0).trans rfl, (blk_cell BK413.out 1).trans rfl⟩ (fun hHeld => ?_)
             generalize wc.drew = w151 at BK389 BK409 BK413 HB hHeld ⊢
             refine take_ (i := 0) (N := some 110) (v := ?_) (a' := ?_) #[true, false, false, false, false, false] rfl rfl (by kernel_rfl) (fun _ _ _ h => h) (Or.inl ⟨by rfl, ?_⟩) hHeld ?_ ?_
             rotate_left
             ·rintro w' ⟨s0, s1, s2, s3⟩
              go_simp
              with_reducible rfl
             rotate_left
             ·simp only [Act.put, List.setIfInBounds_toArray, List.set_cons_zero, List.set_cons_succ, i64_w, i32_w]
              rfl
             refine take_ (i := 2) (N := some 112) (v := ?_) (a' := ?_) #[true, false, true, false, false, false] rfl rfl (by kernel_rfl) (fun _ _ _ h => h) (Or.inl ⟨by rfl, ?_⟩) hHeld ?_ ?_
             rotate_left
             ·rintro w' ⟨s0, s1, s2, s3⟩
              go_simp
              with_reducible rfl
             rotate_left
             ·simp only [Act.put, List.setIfInBounds_toArray, List.set_cons_zero, List.set_cons_succ, i64_w, i32_w]
              rfl
             refine one_ (i := 1) (N := some 111) #[true, true, true, false, false, false] rfl rfl (by kernel_rfl) (by decide) (fun K hK => ?_)
             refine goes_ Try.func17 (by kernel_rfl) rfl #[.agg #[.int .i64 t406, .string t407]] (by rfl) rfl rfl (by (try simp only [List.map_toArray, List.map_cons, List.map_nil]); first | done | rfl | (simp only [List.length_drop, List.length_take]; rfl)) ?_
             with_reducible refine (impl_Known.calls kj31 t406 t407 t416 _ A72.out).mono ?_
             rintro e w152 ⟨rfl, hb⟩
             refine ⟨_, rfl, ?_⟩
             have n0_ := bb BK389 hb
             have n1_ := bb BK409 hb
             have n2_ := bb BK413 hb
             have n3_ := bs HB hb
             clear BK389
             clear BK409
             clear BK413
             clear HB
             have BK389 := n0_
             have BK409 := n1_
             have BK413 := n2_
             have HB := n3_
             clear n0_ n1_ n2_ n3_
             (try clear hb)
             (try clear hb2)
             (try clear hk)
             (try clear hi)
             refine hK.out _ _ ⟨(blk_cell BK409.out 0).trans rfl, (blk_cell BK409.out 1).trans rfl, (blk_cell BK413.out 0).trans rfl, (blk_cell BK413.out 1).trans rfl⟩ (fun hHeld => ?_)
             clear hK K
             refine norm_ (a' := ?_) ?_ ?_
             rotate_left
             ·show Act.put _ (some 111) _ = _
              simp only [Act.put, List.setIfInBounds_toArray, List.set_cons_zero, List.set_cons_succ, i64_w, i32_w]
              rfl
             refine one_ (i := 3) (N := some 113) #[true, true, true, true, false, false] rfl rfl (by kernel_rfl) (by decide) (fun K hK => ?_)
             refine goes_ Try.func17 (by kernel_rfl) rfl #[.agg #[.int .i64 t410, .string t411]] (by rfl) rfl rfl (by (try simp only [List.map_toArray, List.map_cons, List.map_nil]); first | done | rfl | (simp only [List.length_drop, List.length_take]; rfl)) ?_
             with_reducible refine (impl_Known.calls kj31 t410 t411 t417 _ A73.out).mono ?_
             rintro e w153 ⟨rfl, hb⟩
             refine ⟨_, rfl, ?_⟩
             have n0_ := bb BK389 hb
             have n1_ := bb BK409 hb
             have n2_ := bb BK413 hb
             have n3_ := bs HB hb
             clear BK389
             clear BK409
             clear BK413
             clear HB
             have BK389 := n0_
             have BK409 := n1_
             have BK413 := n2_
             have HB := n3_
             clear n0_ n1_ n2_ n3_
             (try clear hb)
             (try clear hb2)
             (try clear hk)
             (try clear hi)
             refine hK.out _ _ ⟨(blk_cell BK409.out 0).trans rfl, (blk_cell BK409.out 1).trans rfl, (blk_cell BK413.out 0).trans rfl, (blk_cell BK413.out 1).trans rfl⟩ (fun hHeld => ?_)
             clear hK K
             refine norm_ (a' := ?_) ?_ ?_
             rotate_left
             ·show Act.put _ (some 113) _ = _
              simp only [Act.put, List.setIfInBounds_toArray, List.set_cons_zero, List.set_cons_succ, i64_w, i32_w]
              rfl
             refine pure_ (i := 4) (N := some 12) (v := ?_) (a' := ?_) #[true, true, true, true, true, false] rfl rfl (by kernel_rfl) (fun _ _ _ h => h) (Or.inl ⟨by rfl, ?_⟩) ?_ ?_
             rotate_left
             ·intro w'
              go_simp
              with_reducible rfl
             rotate_left
             ·simp only [Act.put, List.setIfInBounds_toArray, List.set_cons_zero, List.set_cons_succ, i64_w, i32_w]
              rfl
             refine pure_ (i := 5) (N := some 13) (v := ?_) (a' := ?_) #[true, true, true, true, true, true] rfl rfl (by kernel_rfl) (fun _ _ _ h => h) (Or.inl ⟨by rfl, ?_⟩) ?_ ?_
             rotate_left
             ·intro w'
              go_simp
              with_reducible rfl
             rotate_left
             ·simp only [Act.put, List.setIfInBounds_toArray, List.set_cons_zero, List.set_cons_succ, i64_w, i32_w]
              rfl
             refine done_ (by kernel_rfl) ?_
             have hnb154 := NB389_409.out
             have hnc154 := NB409_389.out
             have hnb155 := NB389_413.out
             have hnc155 := NB413_389.out
             have hcz156_0 : w153.cell? ⟨gb389, 0, none⟩ = some (.int .i64 t387) := (blk_cell BK389.out 0).trans rfl
             have hcz156_1 : w153.cell? ⟨gb389, 1, none⟩ = some (.string t388) := (blk_cell BK389.out 1).trans rfl
             have hfz156_0 := blk_frozen BK389.out 0
             have hfz156_1 := blk_frozen BK389.out 1
             try go_wp2_with (first | ((with_reducible refine gate_callee (f := 15) rfl ?_); refine goesL_ (some 134) rfl rfl Try.func15 (by kernel_rfl) rfl #[.agg #[.int .i64 t387, .string t388]] rfl (by (try simp only [List.map_toArray, List.map_cons, List.map_nil]); first | done | rfl | (simp only [List.length_drop, List.length_take]; rfl)) ?_; (with_reducible refine (impl_Needs.calls kj31 t387 t388 t426 _ A135.out).mono ?_); rintro e w157 ⟨v427, rfl, ho0, hb⟩; refine ⟨_, rfl, ?_⟩; have n0_ := Aside0.mk (Kd.R_lower ho0 (below_size (by repeat (first | (with_reducible first | exact HB.out | apply below_alloc | apply pw_below_drewN | apply below_drew1 | refine below_set ?_ GE389.out | refine below_set ?_ GE409.out | refine below_set ?_ GE413.out) | exact HB.out)))); have n1_ := bb BK389 hb; have n2_ := bb BK409 hb; have n3_ := bb BK413 hb; have n4_ := bs HB hb; clear BK389; clear BK409; clear BK413; clear HB; have HO428 := n0_; have BK389 := n1_; have BK409 := n2_; have BK413 := n3_; have HB := n4_; clear n0_ n1_ n2_ n3_ n4_; (try clear hb); (try clear hb2); (try clear hk); (try clear hi); (try clear ho0); obtain ⟨Ao158, co158, eo158⟩ := Kd.R_slice HO428.out; subst eo158; have hnb159 := NB409_413.out; have hnc159 := NB413_409.out; have hcz160_0 : w157.cell? ⟨gb409, 0, none⟩ = some (.int .i64 t406) := (blk_cell BK409.out 0).trans rfl; have hcz160_1 : w157.cell? ⟨gb409, 1, none⟩ = some (.string t407) := (blk_cell BK409.out 1).trans rfl; have hfz160_0 := blk_frozen BK409.out 0; have hfz160_1 := blk_frozen BK409.out 1; have hcz161_0 : w157.cell? ⟨gb413, 0, none⟩ = some (.int .i64 t410) := (blk_cell BK413.out 0).trans rfl; have hcz161_1 : w157.cell? ⟨gb413, 1, none⟩ = some (.string t411) := (blk_cell BK413.out 1).trans rfl; have hfz161_0 := blk_frozen BK413.out 0; have hfz161_1 := blk_frozen BK413.out 1))
             go_ret
             exact ⟨by first | rfl | (simp [errW_none, errW_some] <;> rfl) | (exfalso; have h_ := c132b2; have g_ := c133b0; simp at h_ g_; omega) | (simp [*, errW_none, errW_some] <;> rfl) | (simp [errW_none, errW_some, show t426 = [] from by simpa using c136b0]; done) | (simp [*, show t426 = [] from by simpa using c136b0]; done) | (simp [errW_none, errW_some, show t426 = [] from by simpa using c136b0] <;> rfl), by repeat (first | (with_reducible first | exact HB.out | apply below_alloc | apply pw_below_drewN | apply below_drew1 | refine below_set ?_ GE389.out | refine below_set ?_ GE409.out | refine below_set ?_ GE413.out) | exact HB.out)⟩
            ·rw [if_neg c150] at H
             have c150b0 : (false == (!(t406 == t410) || (!(t407.toList == t411.toList)))) = false := by simpa using c150
             (try (have c150b1 : decide (false = (!(t406 == t410) || (!(t407.toList == t411.toList)))) = false := by simpa using c150))
             (try (have c150b2 : (false == (!(t406 == t410) || (!(t407.toList == t411.toList)))) = false := by simpa using c150))
             (try (have c150b3 : ¬ (false = (!(t406 == t410) || (!(t407.toList == t411.toList)))) := by simpa using c150))
             clear c150
             exact absurd ((Option.some.inj H).trans HT.out) (by decide)
          ·rw [if_neg c134] at H
           have c134b0 : (t397 == t416) = false := beq_eq_false_iff_ne.mpr c134
           have c134b1 : (t397 != t416) = true := bne_iff_ne.mpr c134
           exact absurd ((Option.some.inj H).trans HT.out) (by decide)
         ·rw [if_neg c133] at H
          have c133b0 : decide (0 ≤ t397) = false := decide_eq_false c133
          clear c133
          replace H := Option.bind_eq_some_iff.mp H
          obtain ⟨t430, A1620, H⟩ := H
          replace H : (if (t430.length : Int) > 0 then (if 0 < (t430.length : Int) then (if (((rd t430 0) == 0) == (!(t406 == t410) || (!(t407.toList == t411.toList)))) = true then (some ((decide (t397 ≥ 0)) == ((t430.length : Int) == 0))) else (some false)) else (none)) else (if (false == (!(t406 == t410) || (!(t407.toList == t411.toList)))) = true then (some ((decide (t397 ≥ 0)) == ((t430.length : Int) == 0))) else (some false))) = some r := H
          have A162 := Aside0.mk A1620
          clear A1620
          by_cases c163 : (t430.length : Int) > 0
          ·rw [if_pos c163] at H
           have c163b0 : decide (0 < (t430.length : Int)) = true := decide_eq_true c163
           have c163b1 : decide (0 < t430.length) = true := decide_eq_true (by omega)
           clear c163
           by_cases c164 : 0 < (t430.length : Int)
           ·rw [if_pos c164] at H
            have c164b0 : decide (0 < (t430.length : Int)) = true := decide_eq_true c164
            have c164b1 : decide (0 < t430.length) = true := decide_eq_true (by omega)
            clear c164
            by_cases c165 : (((rd t430 0) == 0) == (!(t406 == t410) || (!(t407.toList == t411.toList)))) = true
            ·rw [if_pos c165] at H
             have c165b0 : (((rd t430 0) == 0) == (!(t406 == t410) || (!(t407.toList == t411.toList)))) = true := c165
             (try (have c165b1 : decide (((rd t430 0) == 0) = (!(t406 == t410) || (!(t407.toList == t411.toList)))) = true := by simpa using c165))
             (try (have c165b2 : (((rd t430 0) == 0) == (!(t406 == t410) || (!(t407.toList == t411.toList)))) = true := by simpa using c165))
             clear c165
             obtain rfl := Option.some.inj H
             try go_wp2
             have n0_ := Aside0.mk (blk_drew BK389.out)
             have n1_ := Aside0.mk (blk_drew BK409.out)
             have n2_ := Aside0.mk (blk_drew BK413.out)
             have n3_ := Aside0.mk (below_drew1 HB.out)
             clear BK389
             clear BK409
             clear BK413
             clear HB
             have BK389 := n0_
             have BK409 := n1_
             have BK413 := n2_
             have HB := n3_
             clear n0_ n1_ n2_ n3_
             refine start_ (n := 6) (S := fun w' => w'.cell? ⟨gb409, 0, none⟩ = some (.int .i64 t406) ∧ w'.cell? ⟨gb409, 1, none⟩ = some (.string t407) ∧ w'.cell? ⟨gb413, 0, none⟩ = some (.int .i64 t410) ∧ w'.cell? ⟨gb413, 1, none⟩ = some (.string t411)) (ds := []) #[false, false, false, false, false, false] (by kernel_rfl) rfl rfl ⟨(blk_cell BK409.out 0).trans rfl, (blk_cell BK409.out 1).trans rfl, (blk_cell BK413.out 0).trans rfl, (blk_cell BK413.out 1).trans rfl⟩ (fun hHeld => ?_)
             generalize wc.drew = w166 at BK389 BK409 BK413 HB hHeld ⊢
             refine take_ (i := 0) (N := some 110) (v := ?_) (a' := ?_) #[true, false, false, false, false, false] rfl rfl (by kernel_rfl) (fun _ _ _ h => h) (Or.inl ⟨by rfl, ?_⟩) hHeld ?_ ?_
             rotate_left
             ·rintro w' ⟨s0, s1, s2, s3⟩
              go_simp
              with_reducible rfl
             rotate_left
             ·simp only [Act.put, List.setIfInBounds_toArray, List.set_cons_zero, List.set_cons_succ, i64_w, i32_w]
              rfl
             refine take_ (i := 2) (N := some 112) (v := ?_) (a' := ?_) #[true, false, true, false, false, false] rfl rfl (by kernel_rfl) (fun _ _ _ h => h) (Or.inl ⟨by rfl, ?_⟩) hHeld ?_ ?_
             rotate_left
             ·rintro w' ⟨s0, s1, s2, s3⟩
              go_simp
              with_reducible rfl
             rotate_left
             ·simp only [Act.put, List.setIfInBounds_toArray, List.set_cons_zero, List.set_cons_succ, i64_w, i32_w]
              rfl
             refine one_ (i := 1) (N := some 111) #[true, true, true, false, false, false] rfl rfl (by kernel_rfl) (by decide) (fun K hK => ?_)
             refine goes_ Try.func17 (by kernel_rfl) rfl #[.agg #[.int .i64 t406, .string t407]] (by rfl) rfl rfl (by (try simp only [List.map_toArray, List.map_cons, List.map_nil]); first | done | rfl | (simp only [List.length_drop, List.length_take]; rfl)) ?_
             with_reducible refine (impl_Known.calls kj31 t406 t407 t416 _ A72.out).mono ?_
             rintro e w167 ⟨rfl, hb⟩
             refine ⟨_, rfl, ?_⟩
             have n0_ := bb BK389 hb
             have n1_ := bb BK409 hb
             have n2_ := bb BK413 hb
             have n3_ := bs HB hb
             clear BK389
             clear BK409
             clear BK413
             clear HB
             have BK389 := n0_
             have BK409 := n1_
             have BK413 := n2_
             have HB := n3_
             clear n0_ n1_ n2_ n3_
             (try clear hb)
             (try clear hb2)
             (try clear hk)
             (try clear hi)
             refine hK.out _ _ ⟨(blk_cell BK409.out 0).trans rfl, (blk_cell BK409.out 1).trans rfl, (blk_cell BK413.out 0).trans rfl, (blk_cell BK413.out 1).trans rfl⟩ (fun hHeld => ?_)
             clear hK K
             refine norm_ (a' := ?_) ?_ ?_
             rotate_left
             ·show Act.put _ (some 111) _ = _
              simp only [Act.put, List.setIfInBounds_toArray, List.set_cons_zero, List.set_cons_succ, i64_w, i32_w]
              rfl
             refine one_ (i := 3) (N := some 113) #[true, true, true, true, false, false] rfl rfl (by kernel_rfl) (by decide) (fun K hK => ?_)
             refine goes_ Try.func17 (by kernel_rfl) rfl #[.agg #[.int .i64 t410, .string t411]] (by rfl) rfl rfl (by (try simp only [List.map_toArray, List.map_cons, List.map_nil]); first | done | rfl | (simp only [List.length_drop, List.length_take]; rfl)) ?_
             with_reducible refine (impl_Known.calls kj31 t410 t411 t417 _ A73.out).mono ?_
             rintro e w168 ⟨rfl, hb⟩
             refine ⟨_, rfl, ?_⟩
             have n0_ := bb BK389 hb
             have n1_ := bb BK409 hb
             have n2_ := bb BK413 hb
             have n3_ := bs HB hb
             clear BK389
             clear BK409
             clear BK413
             clear HB
             have BK389 := n0_
             have BK409 := n1_
             have BK413 := n2_
             have HB := n3_
             clear n0_ n1_ n2_ n3_
             (try clear hb)
             (try clear hb2)
             (try clear hk)
             (try clear hi)
             refine hK.out _ _ ⟨(blk_cell BK409.out 0).trans rfl, (blk_cell BK409.out 1).trans rfl, (blk_cell BK413.out 0).trans rfl, (blk_cell BK413.out 1).trans rfl⟩ (fun hHeld => ?_)
             clear hK K
             refine norm_ (a' := ?_) ?_ ?_
             rotate_left
             ·show Act.put _ (some 113) _ = _
              simp only [Act.put, List.setIfInBounds_toArray, List.set_cons_zero, List.set_cons_succ, i64_w, i32_w]
              rfl
             refine pure_ (i := 4) (N := some 12) (v := ?_) (a' := ?_) #[true, true, true, true, true, false] rfl rfl (by kernel_rfl) (fun _ _ _ h => h) (Or.inl ⟨by rfl, ?_⟩) ?_ ?_
             rotate_left
             ·intro w'
              go_simp
              with_reducible rfl
             rotate_left
             ·simp only [Act.put, List.setIfInBounds_toArray, List.set_cons_zero, List.set_cons_succ, i64_w, i32_w]
              rfl
             refine pure_ (i := 5) (N := some 13) (v := ?_) (a' := ?_) #[true, true, true, true, true, true] rfl rfl (by kernel_rfl) (fun _ _ _ h => h) (Or.inl ⟨by rfl, ?_⟩) ?_ ?_
             rotate_left
             ·intro w'
              go_simp
              with_reducible rfl
             rotate_left
             ·simp only [Act.put, List.setIfInBounds_toArray, List.set_cons_zero, List.set_cons_succ, i64_w, i32_w]
              rfl
             refine done_ (by kernel_rfl) ?_
             have hnb169 := NB389_409.out
             have hnc169 := NB409_389.out
             have hnb170 := NB389_413.out
             have hnc170 := NB413_389.out
             have hcz171_0 : w168.cell? ⟨gb389, 0, none⟩ = some (.int .i64 t387) := (blk_cell BK389.out 0).trans rfl
             have hcz171_1 : w168.cell? ⟨gb389, 1, none⟩ = some (.string t388) := (blk_cell BK389.out 1).trans rfl
             have hfz171_0 := blk_frozen BK389.out 0
             have hfz171_1 := blk_frozen BK389.out 1
             try go_wp2_with (first | ((with_reducible refine gate_callee (f := 15) rfl ?_); refine goesL_ (some 134) rfl rfl Try.func15 (by kernel_rfl) rfl #[.agg #[.int .i64 t387, .string t388]] rfl (by (try simp only [List.map_toArray, List.map_cons, List.map_nil]); first | done | rfl | (simp only [List.length_drop, List.length_take]; rfl)) ?_; (with_reducible refine (impl_Needs.calls kj31 t387 t388 t430 _ A162.out).mono ?_); rintro e w172 ⟨v431, rfl, ho0, hb⟩; refine ⟨_, rfl, ?_⟩; have n0_ := Aside0.mk (Kd.R_lower ho0 (below_size (by repeat (first | (with_reducible first | exact HB.out | apply below_alloc | apply pw_below_drewN | apply below_drew1 | refine below_set ?_ GE389.out | refine below_set ?_ GE409.out | refine below_set ?_ GE413.out) | exact HB.out)))); have n1_ := bb BK389 hb; have n2_ := bb BK409 hb; have n3_ := bb BK413 hb; have n4_ := bs HB hb; clear BK389; clear BK409; clear BK413; clear HB; have HO432 := n0_; have BK389 := n1_; have BK409 := n2_; have BK413 := n3_; have HB := n4_; clear n0_ n1_ n2_ n3_ n4_; (try clear hb); (try clear hb2); (try clear hk); (try clear hi); (try clear ho0); obtain ⟨Ao173, co173, eo173⟩ := Kd.R_slice HO432.out; subst eo173; have p433 : 0 ≤ (0 : Int) := (by omega); have q433 : 0 < (t430.length : Int) := of_decide_eq_true (by first | (with_reducible assumption) | assumption); obtain ⟨ad433, e433, hx433_0⟩ := Kd.at_int (Kd.R_reads' HO432.out).2.2 0 p433 q433; cases e433; have qi433 : (0 < t430.length) = True := eq_true (by omega); (try rw [show ((0 : Int)).toNat = 0 from rfl] at hx433_0); (try rw [Addr.add_zero'] at hx433_0); replace p433 := eq_true p433; replace q433 := eq_true q433; have hnb174 := NB409_413.out; have hnc174 := NB413_409.out; have hcz175_0 : w172.cell? ⟨gb409, 0, none⟩ = some (.int .i64 t406) := (blk_cell BK409.out 0).trans rfl; have hcz175_1 : w172.cell? ⟨gb409, 1, none⟩ = some (.string t407) := (blk_cell BK409.out 1).trans rfl; have hfz175_0 := blk_frozen BK409.out 0; have hfz175_1 := blk_frozen BK409.out 1; have hcz176_0 : w172.cell? ⟨gb413, 0, none⟩ = some (.int .i64 t410) := (blk_cell BK413.out 0).trans rfl; have hcz176_1 : w172.cell? ⟨gb413, 1, none⟩ = some (.string t411) := (blk_cell BK413.out 1).trans rfl; have hfz176_0 := blk_frozen BK413.out 0; have hfz176_1 := blk_frozen BK413.out 1))
             go_ret
             exact ⟨by first | rfl | (simp [errW_none, errW_some] <;> rfl) | (simp [*, errW_none, errW_some] <;> rfl) | (simp [errW_none, errW_some, show ¬ t430 = [] from by intro h_; rw [h_] at c163b0; simp at c163b0, show ¬ t430 = [] from by intro h_; rw [h_] at c164b0; simp at c164b0]; done) | (simp [*, show ¬ t430 = [] from by intro h_; rw [h_] at c163b0; simp at c163b0, show ¬ t430 = [] from by intro h_; rw [h_] at c164b0; simp at c164b0]; done) | (simp [errW_none, errW_some, show ¬ t430 = [] from by intro h_; rw [h_] at c163b0; simp at c163b0, show ¬ t430 = [] from by intro h_; rw [h_] at c164b0; simp at c164b0] <;> rfl), by repeat (first | (with_reducible first | exact HB.out | apply below_alloc | apply pw_below_drewN | apply below_drew1 | refine below_set ?_ GE389.out | refine below_set ?_ GE409.out | refine below_set ?_ GE413.out) | exact HB.out)⟩
            ·rw [if_neg c165] at H
             have c165b0 : (((rd t430 0) == 0) == (!(t406 == t410) || (!(t407.toList == t411.toList)))) = false := by simpa using c165
             (try (have c165b1 : decide (((rd t430 0) == 0) = (!(t406 == t410) || (!(t407.toList == t411.toList)))) = false := by simpa using c165))
             (try (have c165b2 : (((rd t430 0) == 0) == (!(t406 == t410) || (!(t407.toList == t411.toList)))) = false := by simpa using c165))
             (try (have c165b3 : ¬ (((rd t430 0) == 0) = (!(t406 == t410) || (!(t407.toList == t411.toList)))) := by simpa using c165))
             clear c165
             exact absurd ((Option.some.inj H).trans HT.out) (by decide)
           ·rw [if_neg c164] at H
            exact absurd H (by simp)
          ·rw [if_neg c163] at H
           have c163b0 : decide (0 < (t430.length : Int)) = false := decide_eq_false c163
           have c163b1 : decide (0 < t430.length) = false := decide_eq_false (by omega)
           clear c163
           by_cases c177 : (false == (!(t406 == t410) || (!(t407.toList == t411.toList)))) = true
           ·rw [if_pos c177] at H
            have c177b0 : (false == (!(t406 == t410) || (!(t407.toList == t411.toList)))) = true := c177
            (try (have c177b1 : decide (false = (!(t406 == t410) || (!(t407.toList == t411.toList)))) = true := by simpa using c177))
            (try (have c177b2 : (false == (!(t406 == t410) || (!(t407.toList == t411.toList)))) = true := by simpa using c177))
            clear c177
            obtain rfl := Option.some.inj H
            try go_wp2
            have n0_ := Aside0.mk (blk_drew BK389.out)
            have n1_ := Aside0.mk (blk_drew BK409.out)
            have n2_ := Aside0.mk (blk_drew BK413.out)
            have n3_ := Aside0.mk (below_drew1 HB.out)
            clear BK389
            clear BK409
            clear BK413
            clear HB
            have BK389 := n0_
            have BK409 := n1_
            have BK413 := n2_
            have HB := n3_
            clear n0_ n1_ n2_ n3_
            refine start_ (n := 6) (S := fun w' => w'.cell? ⟨gb409, 0, none⟩ = some (.int .i64 t406) ∧ w'.cell? ⟨gb409, 1, none⟩ = some (.string t407) ∧ w'.cell? ⟨gb413, 0, none⟩ = some (.int .i64 t410) ∧ w'.cell? ⟨gb413, 1, none⟩ = some (.string t411)) (ds := []) #[false, false, false, false, false, false] (by kernel_rfl) rfl rfl ⟨(blk_cell BK409.out 0).trans rfl, (blk_cell BK409.out 1).trans rfl, (blk_cell BK413.out 0).trans rfl, (blk_cell BK413.out 1).trans rfl⟩ (fun hHeld => ?_)
            generalize wc.drew = w178 at BK389 BK409 BK413 HB hHeld ⊢
            refine take_ (i := 0) (N := some 110) (v := ?_) (a' := ?_) #[true, false, false, false, false, false] rfl rfl (by kernel_rfl) (fun _ _ _ h => h) (Or.inl ⟨by rfl, ?_⟩) hHeld ?_ ?_
            rotate_left
            ·rintro w' ⟨s0, s1, s2, s3⟩
             go_simp
             with_reducible rfl
            rotate_left
            ·simp only [Act.put, List.setIfInBounds_toArray, List.set_cons_zero, List.set_cons_succ, i64_w, i32_w]
             rfl
            refine take_ (i := 2) (N := some 112) (v := ?_) (a' := ?_) #[true, false, true, false, false, false] rfl rfl (by kernel_rfl) (fun _ _ _ h => h) (Or.inl ⟨by rfl, ?_⟩) hHeld ?_ ?_
            rotate_left
            ·rintro w' ⟨s0, s1, s2, s3⟩
             go_simp
             with_reducible rfl
            rotate_left
            ·simp only [Act.put, List.setIfInBounds_toArray, List.set_cons_zero, List.set_cons_succ, i64_w, i32_w]
             rfl
            refine one_ (i := 1) (N := some 111) #[true, true, true, false, false, false] rfl rfl (by kernel_rfl) (by decide) (fun K hK => ?_)
            refine goes_ Try.func17 (by kernel_rfl) rfl #[.agg #[.int .i64 t406, .string t407]] (by rfl) rfl rfl (by (try simp only [List.map_toArray, List.map_cons, List.map_nil]); first | done | rfl | (simp only [List.length_drop, List.length_take]; rfl)) ?_
            with_reducible refine (impl_Known.calls kj31 t406 t407 t416 _ A72.out).mono ?_
            rintro e w179 ⟨rfl, hb⟩
            refine ⟨_, rfl, ?_⟩
            have n0_ := bb BK389 hb
            have n1_ := bb BK409 hb
            have n2_ := bb BK413 hb
            have n3_ := bs HB hb
            clear BK389
            clear BK409
            clear BK413
            clear HB
            have BK389 := n0_
            have BK409 := n1_
            have BK413 := n2_
            have HB := n3_
            clear n0_ n1_ n2_ n3_
            (try clear hb)
            (try clear hb2)
            (try clear hk)
            (try clear hi)
            refine hK.out _ _ ⟨(blk_cell BK409.out 0).trans rfl, (blk_cell BK409.out 1).trans rfl, (blk_cell BK413.out 0).trans rfl, (blk_cell BK413.out 1).trans rfl⟩ (fun hHeld => ?_)
            clear hK K
            refine norm_ (a' := ?_) ?_ ?_
            rotate_left
            ·show Act.put _ (some 111) _ = _
             simp only [Act.put, List.setIfInBounds_toArray, List.set_cons_zero, List.set_cons_succ, i64_w, i32_w]
             rfl
            refine one_ (i := 3) (N := some 113) #[true, true, true, true, false, false] rfl rfl (by kernel_rfl) (by decide) (fun K hK => ?_)
            refine goes_ Try.func17 (by kernel_rfl) rfl #[.agg #[.int .i64 t410, .string t411]] (by rfl) rfl rfl (by (try simp only [List.map_toArray, List.map_cons, List.map_nil]); first | done | rfl | (simp only [List.length_drop, List.length_take]; rfl)) ?_
            with_reducible refine (impl_Known.calls kj31 t410 t411 t417 _ A73.out).mono ?_
            rintro e w180 ⟨rfl, hb⟩
            refine ⟨_, rfl, ?_⟩
            have n0_ := bb BK389 hb
            have n1_ := bb BK409 hb
            have n2_ := bb BK413 hb
            have n3_ := bs HB hb
            clear BK389
            clear BK409
            clear BK413
            clear HB
            have BK389 := n0_
            have BK409 := n1_
            have BK413 := n2_
            have HB := n3_
            clear n0_ n1_ n2_ n3_
            (try clear hb)
            (try clear hb2)
            (try clear hk)
            (try clear hi)
            refine hK.out _ _ ⟨(blk_cell BK409.out 0).trans rfl, (blk_cell BK409.out 1).trans rfl, (blk_cell BK413.out 0).trans rfl, (blk_cell BK413.out 1).trans rfl⟩ (fun hHeld => ?_)
            clear hK K
            refine norm_ (a' := ?_) ?_ ?_
            rotate_left
            ·show Act.put _ (some 113) _ = _
             simp only [Act.put, List.setIfInBounds_toArray, List.set_cons_zero, List.set_cons_succ, i64_w, i32_w]
             rfl
            refine pure_ (i := 4) (N := some 12) (v := ?_) (a' := ?_) #[true, true, true, true, true, false] rfl rfl (by kernel_rfl) (fun _ _ _ h => h) (Or.inl ⟨by rfl, ?_⟩) ?_ ?_
            rotate_left
            ·intro w'
             go_simp
             with_reducible rfl
            rotate_left
            ·simp only [Act.put, List.setIfInBounds_toArray, List.set_cons_zero, List.set_cons_succ, i64_w, i32_w]
             rfl
            refine pure_ (i := 5) (N := some 13) (v := ?_) (a' := ?_) #[true, true, true, true, true, true] rfl rfl (by kernel_rfl) (fun _ _ _ h => h) (Or.inl ⟨by rfl, ?_⟩) ?_ ?_
            rotate_left
            ·intro w'
             go_simp
             with_reducible rfl
            rotate_left
            ·simp only [Act.put, List.setIfInBounds_toArray, List.set_cons_zero, List.set_cons_succ, i64_w, i32_w]
             rfl
            refine done_ (by kernel_rfl) ?_
            have hnb181 := NB389_409.out
            have hnc181 := NB409_389.out
            have hnb182 := NB389_413.out
            have hnc182 := NB413_389.out
            have hcz183_0 : w180.cell? ⟨gb389, 0, none⟩ = some (.int .i64 t387) := (blk_cell BK389.out 0).trans rfl
            have hcz183_1 : w180.cell? ⟨gb389, 1, none⟩ = some (.string t388) := (blk_cell BK389.out 1).trans rfl
            have hfz183_0 := blk_frozen BK389.out 0
            have hfz183_1 := blk_frozen BK389.out 1
            try go_wp2_with (first | ((with_reducible refine gate_callee (f := 15) rfl ?_); refine goesL_ (some 134) rfl rfl Try.func15 (by kernel_rfl) rfl #[.agg #[.int .i64 t387, .string t388]] rfl (by (try simp only [List.map_toArray, List.map_cons, List.map_nil]); first | done | rfl | (simp only [List.length_drop, List.length_take]; rfl)) ?_; (with_reducible refine (impl_Needs.calls kj31 t387 t388 t430 _ A162.out).mono ?_); rintro e w184 ⟨v431, rfl, ho0, hb⟩; refine ⟨_, rfl, ?_⟩; have n0_ := Aside0.mk (Kd.R_lower ho0 (below_size (by repeat (first | (with_reducible first | exact HB.out | apply below_alloc | apply pw_below_drewN | apply below_drew1 | refine below_set ?_ GE389.out | refine below_set ?_ GE409.out | refine below_set ?_ GE413.out) | exact HB.out)))); have n1_ := bb BK389 hb; have n2_ := bb BK409 hb; have n3_ := bb BK413 hb; have n4_ := bs HB hb; clear BK389; clear BK409; clear BK413; clear HB; have HO432 := n0_; have BK389 := n1_; have BK409 := n2_; have BK413 := n3_; have HB := n4_; clear n0_ n1_ n2_ n3_ n4_; (try clear hb); (try clear hb2); (try clear hk); (try clear hi); (try clear ho0); obtain ⟨Ao185, co185, eo185⟩ := Kd.R_slice HO432.out; subst eo185; have hnb186 := NB409_413.out; have hnc186 := NB413_409.out; have hcz187_0 : w184.cell? ⟨gb409, 0, none⟩ = some (.int .i64 t406) := (blk_cell BK409.out 0).trans rfl; have hcz187_1 : w184.cell? ⟨gb409, 1, none⟩ = some (.string t407) := (blk_cell BK409.out 1).trans rfl; have hfz187_0 := blk_frozen BK409.out 0; have hfz187_1 := blk_frozen BK409.out 1; have hcz188_0 : w184.cell? ⟨gb413, 0, none⟩ = some (.int .i64 t410) := (blk_cell BK413.out 0).trans rfl; have hcz188_1 : w184.cell? ⟨gb413, 1, none⟩ = some (.string t411) := (blk_cell BK413.out 1).trans rfl; have hfz188_0 := blk_frozen BK413.out 0; have hfz188_1 := blk_frozen BK413.out 1))
            go_ret
            exact ⟨by first | rfl | (simp [errW_none, errW_some] <;> rfl) | (simp [*, errW_none, errW_some] <;> rfl) | (simp [errW_none, errW_some, show t430 = [] from by simpa using c163b0]; done) | (simp [*, show t430 = [] from by simpa using c163b0]; done) | (simp [errW_none, errW_some, show t430 = [] from by simpa using c163b0] <;> rfl), by repeat (first | (with_reducible first | exact HB.out | apply below_alloc | apply pw_below_drewN | apply below_drew1 | refine below_set ?_ GE389.out | refine below_set ?_ GE409.out | refine below_set ?_ GE413.out) | exact HB.out)⟩
           ·rw [if_neg c177] at H
            have c177b0 : (false == (!(t406 == t410) || (!(t407.toList == t411.toList)))) = false := by simpa using c177
            (try (have c177b1 : decide (false = (!(t406 == t410) || (!(t407.toList == t411.toList)))) = false := by simpa using c177))
            (try (have c177b2 : (false == (!(t406 == t410) || (!(t407.toList == t411.toList)))) = false := by simpa using c177))
            (try (have c177b3 : ¬ (false = (!(t406 == t410) || (!(t407.toList == t411.toList)))) := by simpa using c177))
            clear c177
            exact absurd ((Option.some.inj H).trans HT.out) (by decide)
  ·replace c6 := Bool.eq_false_iff.mpr c6
   subst c6
   have H1 : ((impl_Known.f k t387 t388).bind fun t391 => (if t391 = (-1) then ((impl_Needs.f k t387 t388).bind fun t392 => (if (t392.length : Int) = 0 then ((impl_TableCount.f k t387 t388).bind fun t395 => (if t395 = (-1) then ((impl_TableKey.f k t387 t388).bind fun t396 => (some (t396.toList == ([] : List UInt8)))) else (some false))) else (some false))) else (some false))) = some r := by rw [if_neg (show ¬ (false = true) by decide)] at H; exact H
   clear H
   have H := H1
   clear H1
   replace H := Option.bind_eq_some_iff.mp H
   obtain ⟨t391, A1890, H⟩ := H
   replace H : (if t391 = (-1) then ((impl_Needs.f k t387 t388).bind fun t392 => (if (t392.length : Int) = 0 then ((impl_TableCount.f k t387 t388).bind fun t395 => (if t395 = (-1) then ((impl_TableKey.f k t387 t388).bind fun t396 => (some (t396.toList == ([] : List UInt8)))) else (some false))) else (some false))) else (some false)) = some r := H
   have A189 := Aside0.mk A1890
   clear A1890
   by_cases c190 : t391 = (-1)
   ·rw [if_pos c190] at H
    have c190b0 : (t391 == (-1)) = true := beq_iff_eq.mpr c190
    have c190b1 : (t391 != (-1)) = false := bne_eq_false_iff_eq.mpr c190
    clear c190
    replace H := Option.bind_eq_some_iff.mp H
    obtain ⟨t392, A1910, H⟩ := H
    replace H : (if (t392.length : Int) = 0 then ((impl_TableCount.f k t387 t388).bind fun t395 => (if t395 = (-1) then ((impl_TableKey.f k t387 t388).bind fun t396 => (some (t396.toList == ([] : List UInt8)))) else (some false))) else (some false)) = some r := H
    have A191 := Aside0.mk A1910
    clear A1910
    by_cases c192 : (t392.length : Int) = 0
    ·rw [if_pos c192] at H
     have c192b0 : ((t392.length : Int) == 0) = true := beq_iff_eq.mpr c192
     have c192b1 : ((t392.length : Int) != 0) = false := bne_eq_false_iff_eq.mpr c192
     clear c192
     replace H := Option.bind_eq_some_iff.mp H
     obtain ⟨t395, A1930, H⟩ := H
     replace H : (if t395 = (-1) then ((impl_TableKey.f k t387 t388).bind fun t396 => (some (t396.toList == ([] : List UInt8)))) else (some false)) = some r := H
     have A193 := Aside0.mk A1930
     clear A1930
     by_cases c194 : t395 = (-1)
     ·rw [if_pos c194] at H
      have c194b0 : (t395 == (-1)) = true := beq_iff_eq.mpr c194
      have c194b1 : (t395 != (-1)) = false := bne_eq_false_iff_eq.mpr c194
      clear c194
      replace H := Option.bind_eq_some_iff.mp H
      obtain ⟨t396, A1950, H⟩ := H
      replace H : (some (t396.toList == ([] : List UInt8))) = some r := H
      have A195 := Aside0.mk A1950
      clear A1950
      obtain rfl := Option.some.inj H
      go_enter Try.func5, Try.ntmps5
      go_wp2_with (first | ((with_reducible refine gate_callee (f := 11) rfl ?_); refine goesL_ (some 17) rfl rfl Try.func11 (by kernel_rfl) rfl #[.slice A0 l0.length c0] rfl (by (try simp only [List.map_toArray, List.map_cons, List.map_nil]); first | done | rfl | (simp only [List.length_drop, List.length_take]; rfl)) ?_; (with_reducible refine (laws_big.calls _ _ l0 false _ ?side1 ?side2 A2.out).mono ?_); (case side1 => repeat (first | exact HR0.out | (with_reducible refine Kd.C_alloc ?_ _) | (with_reducible refine Kd.C_drewN ?_ _) | (with_reducible refine Kd.C_drew ?_))); (case side2 => exact HC0.out); rintro e w' ⟨rfl, ⟨nd, rfl⟩⟩; refine ⟨_, rfl, ?_⟩) | ((with_reducible refine gate_callee (f := 22) rfl ?_); refine goesL_ (some 19) rfl rfl Try.func22 (by kernel_rfl) rfl #[.slice A0 l0.length c0] rfl (by (try simp only [List.map_toArray, List.map_cons, List.map_nil]); first | done | rfl | (simp only [List.length_drop, List.length_take]; rfl)) ?_; (with_reducible refine (spec_DrawKnown.calls k _ _ l0 t387 t388 _ ?side1 ?side2 A4.out).mono ?_); (case side1 => repeat (first | exact HR0.out | (with_reducible refine Kd.C_alloc ?_ _) | (with_reducible refine Kd.C_drewN ?_ _) | (with_reducible refine Kd.C_drew ?_))); (case side2 => exact HC0.out); rintro e w196 ⟨rfl, hb⟩; refine ⟨_, rfl, ?_⟩; have n0_ := bs HB hb; clear HB; have HB := n0_; clear n0_; (try clear hb); (try clear hb2); (try clear hk); (try clear hi)) | ((with_reducible refine gate_dst (N := 3) rfl ?_); (try (refine gate_guard (by rfl) ?_; dsimp only)); refine box_event ?hg (N := 3) ?hd (cs := #[.int .i64 0, .string (⟨#[]⟩ : ByteArray)]) (t := 26) ?hr ?_; (case hd => rfl); (case hg => rfl); (case hr => first | (go_simp; done) | (go_simp; rfl)); intro gb389 hg w197 hbox hb; have n0_ := bs HB hb; have n1_ := Aside0.mk (hbox); have n2_ := bz hg HB; have n3_ := bz hg HB; clear HB; have HB := n0_; have BK389 := n1_; have GW389 := n2_; have GE389 := n3_; clear n0_ n1_ n2_ n3_; clear hb hbox hg; have hcz198_0 : w197.cell? ⟨gb389, 0, none⟩ = some (.int .i64 0) := (blk_cell BK389.out 0).trans rfl; have hcz198_1 : w197.cell? ⟨gb389, 1, none⟩ = some (.string (⟨#[]⟩ : ByteArray)) := (blk_cell BK389.out 1).trans rfl; have hfz198_0 := blk_frozen BK389.out 0; have hfz198_1 := blk_frozen BK389.out 1) | ((with_reducible refine gate_callee (f := 23) rfl ?_); refine goesL_ (some 21) rfl rfl Try.func23 (by kernel_rfl) rfl #[.agg #[.int .i64 t387, .string t388]] rfl (by (try simp only [List.map_toArray, List.map_cons, List.map_nil]); first | done | rfl | (simp only [List.length_drop, List.length_take]; rfl)) ?_; (with_reducible refine (spec_TableOk.calls k t387 t388 false _ A5.out).mono ?_); rintro e w199 ⟨rfl, hb⟩; refine ⟨_, rfl, ?_⟩; have n0_ := Aside0.mk (blk_below (g := gb389) (o := .cells #[.int .i64 t387, .string t388] 26 (0, 0)) (by (with_reducible repeat (first | refine blk_drewN ?_ _ | refine blk_drew ?_ | refine blk_alloc ?_ _)); refine blk_put (cs := #[.int .i64 t387, .string (⟨#[]⟩ : ByteArray)]) ?_ 1 _ rfl; (with_reducible repeat (first | refine blk_drewN ?_ _ | refine blk_drew ?_ | refine blk_alloc ?_ _)); refine blk_put (cs := #[.int .i64 0, .string (⟨#[]⟩ : ByteArray)]) ?_ 0 _ rfl; (with_reducible repeat (first | refine blk_drewN ?_ _ | refine blk_drew ?_ | refine blk_alloc ?_ _)); exact BK389.out) hb); have n1_ := bs HB hb; clear BK389; clear HB; have BK389 := n0_; have HB := n1_; clear n0_ n1_; (try clear hb); (try clear hb2); (try clear hk); (try clear hi); have hcz200_0 : w199.cell? ⟨gb389, 0, none⟩ = some (.int .i64 t387) := (blk_cell BK389.out 0).trans rfl; have hcz200_1 : w199.cell? ⟨gb389, 1, none⟩ = some (.string t388) := (blk_cell BK389.out 1).trans rfl; have hfz200_0 := blk_frozen BK389.out 0; have hfz200_1 := blk_frozen BK389.out 1) | ((with_reducible refine gate_callee (f := 17) rfl ?_); refine goesL_ (some 24) rfl rfl Try.func17 (by kernel_rfl) rfl #[.agg #[.int .i64 t387, .string t388]] rfl (by (try simp only [List.map_toArray, List.map_cons, List.map_nil]); first | done | rfl | (simp only [List.length_drop, List.length_take]; rfl)) ?_; (with_reducible refine (impl_Known.calls k t387 t388 t391 _ A189.out).mono ?_); rintro e w201 ⟨rfl, hb⟩; refine ⟨_, rfl, ?_⟩; have n0_ := bb BK389 hb; have n1_ := bs HB hb; clear BK389; clear HB; have BK389 := n0_; have HB := n1_; clear n0_ n1_; (try clear hb); (try clear hb2); (try clear hk); (try clear hi); have hcz202_0 : w201.cell? ⟨gb389, 0, none⟩ = some (.int .i64 t387) := (blk_cell BK389.out 0).trans rfl; have hcz202_1 : w201.cell? ⟨gb389, 1, none⟩ = some (.string t388) := (blk_cell BK389.out 1).trans rfl; have hfz202_0 := blk_frozen BK389.out 0; have hfz202_1 := blk_frozen BK389.out 1) | (go_at_call 15; (try simp only [i64_w, i32_w]); (with_reducible refine (impl_Needs.calls k t387 t388 t392 _ A191.out).mono ?_); rintro e w203 ⟨v393, rfl, ho0, hb⟩; have n0_ := Aside0.mk (Kd.R_lower ho0 (below_size (by repeat (first | (with_reducible first | exact HB.out | apply below_alloc | apply pw_below_drewN | apply below_drew1 | refine below_set ?_ GE389.out) | exact HB.out)))); have n1_ := bb BK389 hb; have n2_ := bs HB hb; clear BK389; clear HB; have HO394 := n0_; have BK389 := n1_; have HB := n2_; clear n0_ n1_ n2_; (try clear hb); (try clear hb2); (try clear hk); (try clear hi); (try clear ho0); obtain ⟨Ao204, co204, eo204⟩ := Kd.R_slice HO394.out; subst eo204; have hcz205_0 : w203.cell? ⟨gb389, 0, none⟩ = some (.int .i64 t387) := (blk_cell BK389.out 0).trans rfl; have hcz205_1 : w203.cell? ⟨gb389, 1, none⟩ = some (.string t388) := (blk_cell BK389.out 1).trans rfl; have hfz205_0 := blk_frozen BK389.out 0; have hfz205_1 := blk_frozen BK389.out 1) | (go_at_call 24; (try simp only [i64_w, i32_w]); (with_reducible refine (impl_TableCount.calls k t387 t388 t395 _ A193.out).mono ?_); rintro e w206 ⟨rfl, hb⟩; have n0_ := Aside0.mk (Kd.R_below (by (with_reducible repeat (first | apply Kd.R_alloc | apply Kd.R_drewN | apply Kd.R_drew)); exact HO394.out) hb); have n1_ := bb BK389 hb; have n2_ := bs HB hb; clear HO394; clear BK389; clear HB; have HO394 := n0_; have BK389 := n1_; have HB := n2_; clear n0_ n1_ n2_; (try clear hb); (try clear hb2); (try clear hk); (try clear hi); have hcz207_0 : w206.cell? ⟨gb389, 0, none⟩ = some (.int .i64 t387) := (blk_cell BK389.out 0).trans rfl; have hcz207_1 : w206.cell? ⟨gb389, 1, none⟩ = some (.string t388) := (blk_cell BK389.out 1).trans rfl; have hfz207_0 := blk_frozen BK389.out 0; have hfz207_1 := blk_frozen BK389.out 1) | (go_at_call 25; (try simp only [i64_w, i32_w]); (with_reducible refine (impl_TableKey.calls k t387 t388 t396 _ A195.out).mono ?_); rintro e w208 ⟨rfl, hb⟩; have n0_ := Aside0.mk (Kd.R_below (by (with_reducible repeat (first | apply Kd.R_alloc | apply Kd.R_drewN | apply Kd.R_drew)); exact HO394.out) hb); have n1_ := bb BK389 hb; have n2_ := bs HB hb; clear HO394; clear BK389; clear HB; have HO394 := n0_; have BK389 := n1_; have HB := n2_; clear n0_ n1_ n2_; (try clear hb); (try clear hb2); (try clear hk); (try clear hi)))
      go_ret
      exact ⟨by first | rfl | (simp [errW_none, errW_some] <;> rfl) | (simp [*, errW_none, errW_some] <;> rfl), by repeat (first | (with_reducible first | exact HB.out | apply below_alloc | apply pw_below_drewN | apply below_drew1 | refine below_set ?_ GE389.out) | exact HB.out)⟩
     ·rw [if_neg c194] at H
      have c194b0 : (t395 == (-1)) = false := beq_eq_false_iff_ne.mpr c194
      have c194b1 : (t395 != (-1)) = true := bne_iff_ne.mpr c194
      exact absurd ((Option.some.inj H).trans HT.out) (by decide)
    ·rw [if_neg c192] at H
     have c192b0 : ((t392.length : Int) == 0) = false := beq_eq_false_iff_ne.mpr c192
     have c192b1 : ((t392.length : Int) != 0) = true := bne_iff_ne.mpr c192
     have c192b2 : ¬ (t392 = []) := fun h_ => c192 (by rw [h_]; rfl)
     exact absurd ((Option.some.inj H).trans HT.out) (by decide)
   ·rw [if_neg c190] at H
    have c190b0 : (t391 == (-1)) = false := beq_eq_false_iff_ne.mpr c190
    have c190b1 : (t391 != (-1)) = true := bne_iff_ne.mpr c190
    exact absurd ((Option.some.inj H).trans HT.out) (by decide)

end Go.Proofs.Ythipjoioicmcnaa.G
