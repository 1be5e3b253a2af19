-- texts of this session, merged by a program of it (wip/gen/pack.py)
import Derived.Test.YthipjoioicmcnaaKFnMore1
import Derived.Laws.IdiomStrings
import Derived.Test.YthipjoioicmcnaaKFnMore2
import Derived.Test.YthipjoioicmcnaaKFnMore3
import Derived.Test.YthipjoioicmcnaaKFnMore4
namespace Go.Proofs.Ythipjoioicmcnaa.G
open Go.RowKit Go.Proofs.YthipjoioicmcnaaW.PrintWords Go.Proofs.YthipjoioicmcnaaW.PrintLast Go.Proofs.YthipjoioicmcnaaW.PrintMore
attribute [local go_sem] max2_int min2_int max_two min_two max_three min_three max_four min_four   -- for this text's walks alone
set_option linter.unusedVariables false
set_option linter.unusedSimpArgs false
open Go.Proofs.Ythipjoioicmcnaa.Sh
def RB (W : World) (base : Nat) (v : Value) (xs : List Int) : Prop :=
  ∃ g cap cur k, v = .slice (some ⟨g, 0, none⟩) xs.length cap ∧ base ≤ g ∧ W.heap[g]? = some (.cells cur 5 (k, k + 1)) ∧ cur.size ≤ k ∧ xs.length ≤ 9223372036854775807 ∧ xs.length ≤ cur.size ∧ cur.toList.take xs.length = nums .u8 xs
section
variable {w w1 W : World} {base g n cap : Nat} {v u : Value} {xs : List Int}
theorem RB_below (h : RB w base v xs) (hb : Below w.heap.size w w1) : RB w1 base v xs := by
  obtain ⟨g, cap, cur, k, h1, h2, h3, h4⟩ := h
  exact ⟨g, cap, cur, k, h1, h2, blk_below h3 hb, h4⟩
theorem RB_alloc (h : RB w base v xs) (o : Obj) : RB (w.alloc o) base v xs := RB_below h (below_alloc (Below.refl _ _) o)
theorem RB_drew (h : RB w base v xs) : RB w.drew base v xs := RB_below h (below_drew (Below.refl _ _))
theorem RB_drewN (h : RB w base v xs) (m : Nat) : RB (w.drewN m) base v xs := RB_below h (pw_below_drewN (Below.refl _ _) m)
theorem RB_set (h : RB w base v xs) {t : TypeId} {cs : Array Value} (hb : w.heap[g]? = some (.cells cs t (0, 0))) (j : Nat) (x : Value) : RB (w.setCell ⟨g, j, none⟩ x) base v xs := by
  obtain ⟨g', cap, cur, k, h1, h2, h3, h4⟩ := h
  refine ⟨g', cap, cur, k, h1, h2, (Below.heap_setCell w ⟨g, j, none⟩ x g' ?_).trans h3, h4⟩
  rintro rfl
  rw [h3] at hb
  simp at hb
theorem RB_slice (h : RB w base v xs) : ∃ A c, v = .slice A xs.length c := by
  obtain ⟨g, cap, cur, k, h1, _⟩ := h
  exact ⟨_, _, h1⟩
theorem RB_form (h : RB w base v xs) (_ : 0 < xs.length) : ∃ g cap, v = .slice (some ⟨g, 0, none⟩) xs.length cap ∧ base ≤ g ∧ g < w.heap.size ∧ ∃ cells, ∃ fz, w.heap[g]? = some (.cells cells 5 fz) := by
  obtain ⟨g, cap, cur, k, h1, h2, h3, _⟩ := h
  exact ⟨g, cap, h1, h2, blk_lt h3, _, _, h3⟩
theorem RB_ne (h : RB w base v xs) {t : TypeId} {cs : Array Value} (hg : w.heap[g]? = some (.cells cs t (0, 0))) (_ : 5 ≠ t) : some g ≠ v.ownBlock := by
  obtain ⟨g', cap, cur, k, rfl, h2, h3, _⟩ := h
  intro he
  have : g = g' := by simpa [Value.ownBlock] using he
  subst this
  rw [hg] at h3
  simp at h3
theorem RB_celln (h : RB w base (.slice (some ⟨g, 0, none⟩) n cap) xs) (i : Int) (h0 : 0 ≤ i) (hi : i < n) : w.cell? ⟨g, i.toNat, none⟩ = some (.int .u8 (rdOf 0 xs i)) ∧ w.frozen? ⟨g, i.toNat, none⟩ = false := by
  obtain ⟨g', cap', cur, k, h1, h2, h3, h4, h6, h7, h8⟩ := h
  injection h1 with h1 h9 _
  injection h1 with h1
  injection h1 with h1
  subst h1 h9
  have hlt : i.toNat < xs.length := by omega
  have hc : cur[i.toNat]? = some (.int .u8 (rdOf 0 xs i)) := by
    have e := congrArg (fun l : List Value => l[i.toNat]?) h8
    simp only [List.getElem?_take, hlt, if_true, nums, List.getElem?_map, List.getElem?_eq_getElem hlt] at e
    rw [← Array.getElem?_toList, e]
    simp [rdOf, List.getD_eq_getElem?_getD, List.getElem?_eq_getElem hlt]
  constructor
  · rw [cell_of_row w g i.toNat cur 5 (k, k + 1) h3]; exact hc
  · simp only [World.frozen?, h3]
    have : ¬ k ≤ i.toNat := by omega
    simp [this]
theorem RB_putg (h : RB w base (.slice (some ⟨g, 0, none⟩) n cap) xs) (i x : Int) : RB (w.setCell ⟨g, i.toNat, none⟩ (.int .u8 x)) base (.slice (some ⟨g, 0, none⟩) n cap) (xs.set i.toNat x) ∧ w.grownBy (w.setCell ⟨g, i.toNat, none⟩ (.int .u8 x)) (some g) := by
  obtain ⟨g', cap', cur, k, h1, h2, h3, h4, h6, h7, h8⟩ := h
  injection h1 with h1 h9 h10
  injection h1 with h1
  injection h1 with h1
  subst h1 h9 h10
  refine ⟨⟨g, cap, cur.setIfInBounds i.toNat (.int .u8 x), k, by rw [List.length_set], h2, ?_, by simpa using h4, by rw [List.length_set]; exact h6, by rw [List.length_set]; simpa using h7, ?_⟩, ⟨rfl, rfl, rfl, by simp, fun k _ hk => heap_setCell_other w ⟨g, i.toNat, none⟩ k _ (fun e => hk (by simp [e]))⟩⟩
  · simp [World.setCell, Array.getElem?_modify, h3]
  · rw [List.length_set, Array.toList_setIfInBounds, List.take_set, h8]
    simp [nums, List.map_set]
theorem RB_over {α : Type} {d : Kd α} {e : Nat} {ok : Nat → Prop} {ys : List α} (h : d.R e w base ok u ys) (hr : RB w base v xs) (hg : w.grownBy w1 v.ownBlock) : d.R e w1 base ok u ys := by
  obtain ⟨g, cap, cur, k, rfl, h2, h3, _⟩ := hr
  refine Kd.R_mono (Kd.R_move (Kd.R_bound h) (fun k_ hk => hg.block k_ hk.2.2.1 (fun he => ?_))) (fun _ hk => hk.1)
  obtain ⟨_, _, _, q, hq, cells, hc⟩ := hk
  have : k_ = g := by simpa [Value.ownBlock] using he
  subst this
  rw [h3] at hc
  simp at hc
theorem RB_string {P : Program} {src dst e : TypeId} (hs : P.underlying src = some (.slice e)) (he : P.underlying e = some (.int .u8)) (hd : P.underlying dst = some .string) (h : RB w base v xs) : (convert src dst v).run P w = .ok (.string (strOfNums xs)) w := by
  have h' := h
  obtain ⟨g, cap, cur, k, rfl, h2, h3, h4, h6, h7, h8⟩ := h'
  refine string_of_reads hs he hd ⟨rfl, h6, fun _ => ⟨⟨g, 0, none⟩, rfl, fun j hj => ?_⟩⟩
  have hc := (RB_celln h (j : Int) (by omega) (by omega)).1
  rw [Int.toNat_natCast] at hc
  rw [add_plain]
  rw [hc]
  simp [rdOf]
theorem conv_bytes {P : Program} {ops : Array Oper} {rest : List Oper} {o : Oper} {a : Act} {Q : Exit → Act → World → Prop} (w0 : World) (hgd : o.guard = none) (src dst : TypeId) (x : Operand) (ho : o.op = .convert src dst x) (hs : P.underlying src = some .string)
    (hd : P.underlying dst = some (.slice 5)) (he : P.underlying 5 = some (.int .u8)) (y : ByteArray) (hx : a.eval x = .string y) (HB : Below base w0 w) (hbase : base ≤ w.heap.size) (hl : y.size ≤ 140737488355328)
    (h : ∀ v1 w1, RB w1 base v1 (bytesOf y) → Below base w0 w1 → w.grownBy w1 (none : Option Nat) → wpList P ops Q rest (a.put o.dst v1) w1) : wpList P ops Q (o :: rest) a w := by
  have hrun := run_bytes_of_string (P := P) w src dst 5 y hs hd he
  refine Kd.event_run (v := .slice (some ⟨w.heap.size, 0, none⟩) y.size (grownCap w y.size 0 5)) (w1 := w.drew.alloc (.cells (bytesRow y (grownCap w y.size 0 5)) 5 ((bytesRow y (grownCap w y.size 0 5)).size, (bytesRow y (grownCap w y.size 0 5)).size + 1))) hgd (by simp [execOp, ho, hx, hrun, -World.alloc_eq, -World.drew_eq]) (h _ _ ⟨w.heap.size, grownCap w y.size 0 5, bytesRow y (grownCap w y.size 0 5), (bytesRow y (grownCap w y.size 0 5)).size, by rw [bytesOf_length], hbase, by simp [World.alloc, World.drew, -World.alloc_eq, -World.drew_eq], Nat.le_refl _, by rw [bytesOf_length]; omega, by rw [bytesOf_length]; simp [bytesRow], ?_⟩ ((HB.trans ⟨rfl, rfl, rfl, Nat.le_refl _, fun _ _ => rfl⟩ : Below base w0 w.drew).alloc hbase _) ?_)
  · rw [bytesOf_length]
    simp [bytesRow, bytesOf, nums, List.take_append]
  · have h_ := World.grownBy_alloc w.drew (.cells (bytesRow y (grownCap w y.size 0 5)) 5 ((bytesRow y (grownCap w y.size 0 5)).size, (bytesRow y (grownCap w y.size 0 5)).size + 1)) none
    exact ⟨h_.os, h_.tape, h_.output, h_.size, h_.block⟩
end
mutual
def laws_FnMore.l0 : Nat → List Int → List Bool → List Int → Int → Int → ByteArray → Int → ByteArray → Option (Bool)
  | 0, _, _, _, _, _, _, _, _ => none
  | k + 1, x0, x3, x6, x7, x108000, x108001, x109000, x109001 => if x7 < (x6.length : Int) then ((laws_at.f x0 (wrap64 (x7 + 2))).bind fun t112 => (if (Int.tmod t112 3) = 0 then (if 0 ≤ x7 then (laws_FnMore.l0 k x0 x3 (x6.set (x7 : Int).toNat 48) (wrap64 (x7 + 1)) x108000 x108001 x109000 x109001) else (none)) else (laws_FnMore.l0 k x0 x3 x6 (wrap64 (x7 + 1)) x108000 x108001 x109000 x109001))) else ((impl_Decide.f k x3 x109000 (strOfNums x6)).bind fun bt114 => ((impl_Decide.f k x3 x108000 x108001).bind fun bt116 => (if bt114.2 = true then (if bt116.2 = true then (laws_FnMore.j1 k x3 bt116.1 (decide (bt114.1 > bt116.1)) x108000 x108001) else (laws_FnMore.j1 k x3 bt116.1 true x108000 x108001)) else (laws_FnMore.j1 k x3 bt116.1 true x108000 x108001))))
def laws_FnMore.j1 : Nat → List Bool → Int → Bool → Int → ByteArray → Option (Bool)
  | 0, _, _, _, _, _ => none
  | k + 1, x3, x10, x74, x108000, x108001 => if x74 = true then (some false) else ((impl_Choose.f k x3 x108000 x108001).bind fun bt118 => (if x108000 = 0 then (some (!bt118.2)) else ((impl_Half.f k x108000 x108001 bt118.1).bind fun bt120 => (if 1 ≤ (x3.length : Int) then ((impl_Decide.f k (x3.drop 1) bt120.1 bt120.2.1).bind fun bt128 => (if 0 < (x3.length : Int) then (if rdOf false x3 0 = true then (if x10 = 0 then (laws_FnMore.j2 k x3 x10 bt118.1 bt118.2 bt128.1 true x108000 x108001) else (laws_FnMore.j2 k x3 x10 bt118.1 bt118.2 bt128.1 false x108000 x108001)) else (laws_FnMore.j2 k x3 x10 bt118.1 bt118.2 bt128.1 (x10 == 1) x108000 x108001)) else (none))) else (none)))))
def laws_FnMore.j2 : Nat → List Bool → Int → Int → Bool → Int → Bool → Int → ByteArray → Option (Bool)
  | 0, _, _, _, _, _, _, _, _ => none
  | k + 1, x3, x10, x12, x13, x16, x18, x108000, x108001 => (impl_Half.f k x108000 x108001 0).bind fun bt133 => (if 1 ≤ (x3.length : Int) then ((impl_Decide.f k (x3.drop 1) bt133.1 bt133.2.1).bind fun bt141 => (if x13 = true then (if x16 = x10 then (if x18 = true then (if ((x12 == 0) == (bt141.1 == x10)) = true then ((impl_Owner.f k x3 x10).bind fun t143 => (if (t143.length : Int) = (x3.length : Int) then ((impl_Owner.f k x3 x10).bind fun t146 => (if 0 < (t146.length : Int) then (if 0 < (x3.length : Int) then (some ((rdOf false t146 0) == ((rdOf false x3 0) == (x10 == 0)))) else (none)) else (none))) else (some false))) else (some false)) else ((impl_Owner.f k x3 x10).bind fun t151 => (if (t151.length : Int) = (x3.length : Int) then ((impl_Owner.f k x3 x10).bind fun t154 => (if 0 < (t154.length : Int) then (if 0 < (x3.length : Int) then (some ((rdOf false t154 0) == ((rdOf false x3 0) == (x10 == 0)))) else (none)) else (none))) else (some false)))) else (some false)) else (some false))) else (none))
end
def laws_FnMore.f (k : Nat) (l0 : List Int) : Option (Bool) := (laws_big.f l0).bind fun t101 => (if t101 = true then (some true) else ((spec_DrawCase.f k l0).bind fun bt102 => (if 0 + bt102.2.2.size < 140737488355328 then (laws_FnMore.l0 k l0 bt102.1 ([] ++ bytesOf bt102.2.2) 0 bt102.2.1 bt102.2.2 bt102.2.1 bt102.2.2) else (none))))
def laws_FnMore.T20 : Bool × List (List Nat × List Nat) := (true, [([], []), ([0], [0]), ([], []), ([1, 2], [1, 2]), ([3], [3]), ([4], [4]), ([4], [4]), ([5, 3, 0, 1, 2, 3, 4, 5], [5]), ([6, 7, 0, 1, 2, 3, 4, 5, 6, 7], [6])])
def laws_FnMore.B20 : List Nat := [0, 1, 0, 7, 15, 31, 31, 63, 255]
theorem laws_FnMore.tab20 : rtab .any (opsOf Try.f4 20) = laws_FnMore.T20 := by kernel_rfl
theorem laws_FnMore.bits20 : waitsOk laws_FnMore.T20.2 laws_FnMore.B20 = true := by kernel_rfl
def laws_FnMore.T23 : Bool × List (List Nat × List Nat) := (true, [([], []), ([0], [0]), ([], []), ([1, 2], [1, 2]), ([3], [3]), ([4], [4]), ([4], [4]), ([5, 3, 0, 1, 2, 3, 4, 5], [5]), ([6, 7, 0, 1, 2, 3, 4, 5, 6, 7], [6])])
def laws_FnMore.B23 : List Nat := [0, 1, 0, 7, 15, 31, 31, 63, 255]
theorem laws_FnMore.tab23 : rtab .any (opsOf Try.f4 23) = laws_FnMore.T23 := by kernel_rfl
theorem laws_FnMore.bits23 : waitsOk laws_FnMore.T23.2 laws_FnMore.B23 = true := by kernel_rfl
def laws_FnMore.T24 : Bool × List (List Nat × List Nat) := (true, [([], []), ([0], [0]), ([1], [1]), ([1], [1]), ([2, 3, 1], [1, 2, 3]), ([1, 4], [1, 4]), ([5, 1], [5]), ([6], [6]), ([7, 6], [6, 7]), ([8, 6, 6], [6, 8]), ([9], [9]), ([10, 9], [9, 10]), ([9], [9]), ([9], [9]), ([12, 13, 9], [9, 12, 13]), ([11, 14, 9], [9, 11, 14]), ([9, 15, 6], [6, 9, 15]), ([6, 16], [6, 16]), ([17, 9], [17]), ([18], [18]), ([18], [18]), ([19, 20, 18, 18], [18, 19, 20]), ([21, 18], [18, 21]), ([18], [18]), ([23, 18], [18, 23]), ([22, 24, 18], [18, 22, 24]), ([18, 25], [18, 25]), ([26, 21], [26]), ([27], [27]), ([27], [27]), ([28, 29, 27, 27], [27, 28, 29]), ([30, 27], [27, 30]), ([31, 27], [27, 31]), ([27], [27]), ([33, 27], [27, 33]), ([34, 27], [27, 34]), ([27], [27]), ([36, 27], [27, 36]), ([35, 37, 27], [27, 35, 37]), ([32, 38, 27], [27, 32, 38]), ([27, 39], [27, 39]), ([40, 30, 0, 1, 2, 3, 4, 5, 6, 7, 8, 9, 10, 11, 12, 13, 14, 15, 16, 17, 18, 19, 20, 21, 22, 23, 24, 25, 26, 27, 28, 29, 30, 31, 32, 33, 34, 35, 36, 37, 38, 39, 40], [40])])
def laws_FnMore.B24 : List Nat := [0, 1, 3, 3, 15, 31, 63, 127, 255, 511, 1023, 2047, 1023, 1023, 13311, 32767, 65535, 131071, 262143, 524287, 524287, 2097151, 4194303, 524287, 8912895, 33554431, 67108863, 134217727, 268435455, 268435455, 1073741823, 2147483647, 4294967295, 268435455, 8858370047, 26038239231, 268435455, 68987912191, 266556407807, 549755813887, 1099511627775, 2199023255551]
theorem laws_FnMore.tab24 : rtab .any (opsOf Try.f4 24) = laws_FnMore.T24 := by kernel_rfl
theorem laws_FnMore.bits24 : waitsOk laws_FnMore.T24.2 laws_FnMore.B24 = true := by kernel_rfl
set_option maxHeartbeats 80000000 in
set_option maxRecDepth 100000 in
theorem laws_FnMore.calls (k : Nat) (A0 : Option Addr) (c0 : Nat) (l0 : List Int) (r : Bool) (w : World) (hr0 : Kd.C (Kd.int .u8) w A0 l0.length l0) (hc0 : l0.length ≤ c0) (ht_ : r = true) (h : laws_FnMore.f k l0 = some r) :
  Calls Try.prog 4 #[.slice A0 l0.length c0] w fun e w' => e = .returned (.bool r) ∧ Below w.heap.size w w' := by
 have hu26 := Try.underlying26; have HT := Aside0.mk ht_; clear ht_; have HR0 := Aside0.mk hr0; have HC0 := Aside0.mk hc0; clear hr0 hc0; have HB := Aside0.mk (Below.refl w.heap.size w)
 have H : ((laws_big.f l0).bind fun t101 => (if t101 = true then (some true) else ((spec_DrawCase.f k l0).bind fun bt102 => (if 0 + bt102.2.2.size < 140737488355328 then (laws_FnMore.l0 k l0 bt102.1 ([] ++ bytesOf bt102.2.2) 0 bt102.2.1 bt102.2.2 bt102.2.1 bt102.2.2) else (none))))) = some r := h
 clear h
 replace H := Option.bind_eq_some_iff.mp H
 obtain ⟨t101, A20, H⟩ := H
 replace H : (if t101 = true then (some true) else ((spec_DrawCase.f k l0).bind fun bt102 => (if 0 + bt102.2.2.size < 140737488355328 then (laws_FnMore.l0 k l0 bt102.1 ([] ++ bytesOf bt102.2.2) 0 bt102.2.1 bt102.2.2 bt102.2.1 bt102.2.2) else (none)))) = some r := H
 have A2 := Aside0.mk A20; clear A20
 by_cases c3 : t101 = true
 ·subst c3
  have H1 : (some true) = some r := by rw [if_pos rfl] at H; exact H
  clear H; have H := H1; clear H1
  obtain rfl := Option.some.inj H
  go_enter Try.func4, Try.ntmps4
  go_wp2_with (first | ((with_reducible refine gate_callee (f := 11) rfl ?_); refine goesL_ (some 24) rfl rfl Try.func11 (by kernel_rfl) rfl #[.slice A0 l0.length c0] rfl (by (try simp only [List.map_toArray, List.map_cons, List.map_nil]); first | done | rfl | (simp only [List.length_drop, List.length_take]; rfl)) ?_; (with_reducible refine (laws_big.calls _ _ l0 true _ ?side1 ?side2 A2.out).mono ?_); (case side1 => repeat (first | exact HR0.out | (with_reducible refine Kd.C_alloc ?_ _) | (with_reducible refine Kd.C_drewN ?_ _) | (with_reducible refine Kd.C_drew ?_))); (case side2 => exact HC0.out); rintro e w' ⟨rfl, ⟨nd, rfl⟩⟩; refine ⟨_, rfl, ?_⟩))
  go_ret
  exact ⟨by first | rfl | (simp [errW_none, errW_some] <;> rfl) | (simp [*, errW_none, errW_some] <;> rfl), by repeat (first | (with_reducible first | exact HB.out | apply below_alloc | apply pw_below_drewN | apply below_drew1) | exact HB.out)⟩
 ·replace c3 := Bool.eq_false_iff.mpr c3
  subst c3
  have H1 : ((spec_DrawCase.f k l0).bind fun bt102 => (if 0 + bt102.2.2.size < 140737488355328 then (laws_FnMore.l0 k l0 bt102.1 ([] ++ bytesOf bt102.2.2) 0 bt102.2.1 bt102.2.2 bt102.2.1 bt102.2.2) else (none))) = some r := by rw [if_neg (show ¬ (false = true) by decide)] at H; exact H
  clear H; have H := H1; clear H1
  replace H := Option.bind_eq_some_iff.mp H
  obtain ⟨⟨t102, t105, t106⟩, A40, H⟩ := H
  replace H : (if 0 + t106.size < 140737488355328 then (laws_FnMore.l0 k l0 t102 ([] ++ bytesOf t106) 0 t105 t106 t105 t106) else (none)) = some r := H
  have A4 := Aside0.mk A40; clear A40
  by_cases c5 : 0 + t106.size < 140737488355328
  ·rw [if_pos c5] at H
   have LMc5 := Aside0.mk c5; clear c5
   obtain ⟨y109, hy109⟩ : ∃ y_ : List Int, y_ = ([] ++ bytesOf t106) := ⟨_, rfl⟩
   replace H : (laws_FnMore.l0 k l0 t102 y109 0 t105 t106 t105 t106) = some r := by first | (rw [hy109]; with_reducible exact H) | (have H2_ := (Option.bind_some _ _).symm.trans H; rw [hy109]; with_reducible exact H2_) | (have H2_ := (Option.bind_some _ _).symm.trans H; with_reducible exact H2_) | with_reducible exact H | (rw [hy109]; exact H) | exact H
   have Ny109 := Aside0.mk hy109; clear hy109
   have H' := Aside0.mk H
   clear H
   go_enter Try.func4, Try.ntmps4
   go_wp2_with (first | ((with_reducible refine gate_callee (f := 11) rfl ?_); refine goesL_ (some 24) rfl rfl Try.func11 (by kernel_rfl) rfl #[.slice A0 l0.length c0] rfl (by (try simp only [List.map_toArray, List.map_cons, List.map_nil]); first | done | rfl | (simp only [List.length_drop, List.length_take]; rfl)) ?_; (with_reducible refine (laws_big.calls _ _ l0 false _ ?side1 ?side2 A2.out).mono ?_); (case side1 => repeat (first | exact HR0.out | (with_reducible refine Kd.C_alloc ?_ _) | (with_reducible refine Kd.C_drewN ?_ _) | (with_reducible refine Kd.C_drew ?_))); (case side2 => exact HC0.out); rintro e w' ⟨rfl, ⟨nd, rfl⟩⟩; refine ⟨_, rfl, ?_⟩) | ((with_reducible refine gate_callee (f := 12) rfl ?_); refine goesL_ (some 27) rfl rfl Try.func12 (by kernel_rfl) rfl #[.slice A0 l0.length c0] rfl (by (try simp only [List.map_toArray, List.map_cons, List.map_nil]); first | done | rfl | (simp only [List.length_drop, List.length_take]; rfl)) ?_; (with_reducible refine (spec_DrawCase.calls k _ _ l0 t102 t105 t106 _ ?side1 ?side2 A4.out).mono ?_); (case side1 => repeat (first | exact HR0.out | (with_reducible refine Kd.C_alloc ?_ _) | (with_reducible refine Kd.C_drewN ?_ _) | (with_reducible refine Kd.C_drew ?_))); (case side2 => exact HC0.out); rintro e w6 ⟨v103, rfl, ho0, hb⟩; refine ⟨_, rfl, ?_⟩; have n0_ := Aside0.mk (Kd.R_lower ho0 (below_size (by repeat (first | (with_reducible first | exact HB.out | apply below_alloc | apply pw_below_drewN | apply below_drew1) | exact HB.out)))); have n1_ := bs0 HB hb; clear HB; have HO104 := n0_; have HB := n1_; clear n0_ n1_; (try clear hb); (try clear hb2); (try clear hk); (try clear hi); (try clear ho0)) | ((with_reducible refine gate_dst (N := 4) rfl ?_); (try (refine gate_guard (by rfl) ?_; dsimp only)); refine box_event ?hg (N := 4) ?hd (cs := #[.int .i64 0, .string (⟨#[]⟩ : ByteArray)]) (t := 26) ?hr ?_; (case hd => rfl); (case hg => rfl); (case hr => first | (go_simp; done) | (go_simp; rfl)); intro gb107 hg w7 hbox hb; have n0_ := rb HO104 hb; have n1_ := bs0 HB hb; have n2_ := Aside0.mk (hbox); have n3_ := bz0 hg HB; have n4_ := bz0 hg HB; clear HO104; clear HB; have HO104 := n0_; have HB := n1_; have BK107 := n2_; have GW107 := n3_; have GE107 := n4_; clear n0_ n1_ n2_ n3_ n4_; clear hb hbox hg; have hcz8_0 : w7.cell? ⟨gb107, 0, none⟩ = some (.int .i64 0) := (blk_cell BK107.out 0).trans rfl; have hcz8_1 : w7.cell? ⟨gb107, 1, none⟩ = some (.string (⟨#[]⟩ : ByteArray)) := (blk_cell BK107.out 1).trans rfl; have hfz8_0 := blk_frozen BK107.out 0; have hfz8_1 := blk_frozen BK107.out 1) | ((with_reducible refine gate_dst (N := 5) rfl ?_); (try (refine gate_guard (by rfl) ?_; dsimp only)); refine box_event ?hg (N := 5) ?hd (cs := #[.int .i64 0, .string (⟨#[]⟩ : ByteArray)]) (t := 26) ?hr ?_; (case hd => rfl); (case hg => rfl); (case hr => first | (go_simp; done) | (go_simp; rfl)); intro gb108 hg w9 hbox hb; have n0_ := rbf HO104 BK107 hb; have n1_ := Aside0.mk (blk_below (g := gb107) (o := .cells #[.int .i64 t105, .string t106] 26 (0, 0)) (by (with_reducible repeat (first | refine blk_drewN ?_ _ | refine blk_drew ?_ | refine blk_alloc ?_ _)); exact bp2 BK107.out) hb); have n2_ := bs1 HB hb GE107; have n3_ := Aside0.mk (hbox); have n4_ := bz1 hg HB GE107; have n5_ := bz1 hg HB GE107; have n6_ := Aside0.mk ((by rw [hg]; exact Nat.ne_of_lt (blk_lt (g := gb107) (o := .cells #[.int .i64 t105, .string t106] 26 (0, 0)) (by (with_reducible repeat (first | refine blk_drewN ?_ _ | refine blk_drew ?_ | refine blk_alloc ?_ _)); exact bp2 BK107.out)) : gb107 ≠ gb108)); have n7_ := Aside0.mk ((by rw [hg]; exact Nat.ne_of_gt (blk_lt (g := gb107) (o := .cells #[.int .i64 t105, .string t106] 26 (0, 0)) (by (with_reducible repeat (first | refine blk_drewN ?_ _ | refine blk_drew ?_ | refine blk_alloc ?_ _)); exact bp2 BK107.out)) : gb108 ≠ gb107)); clear HO104; clear BK107; clear HB; have HO104 := n0_; have BK107 := n1_; have HB := n2_; have BK108 := n3_; have GW108 := n4_; have GE108 := n5_; have NB107_108 := n6_; have NB108_107 := n7_; clear n0_ n1_ n2_ n3_ n4_ n5_ n6_ n7_; clear hb hbox hg; have hnb10 := NB108_107.out; have hnc10 := NB107_108.out; have hcz11_0 : w9.cell? ⟨gb108, 0, none⟩ = some (.int .i64 0) := (blk_cell BK108.out 0).trans rfl; have hcz11_1 : w9.cell? ⟨gb108, 1, none⟩ = some (.string (⟨#[]⟩ : ByteArray)) := (blk_cell BK108.out 1).trans rfl; have hfz11_0 := blk_frozen BK108.out 0; have hfz11_1 := blk_frozen BK108.out 1; have hcz12_0 : w9.cell? ⟨gb107, 0, none⟩ = some (.int .i64 t105) := (blk_cell BK107.out 0).trans rfl; have hcz12_1 : w9.cell? ⟨gb107, 1, none⟩ = some (.string t106) := (blk_cell BK107.out 1).trans rfl; have hfz12_0 := blk_frozen BK107.out 0; have hfz12_1 := blk_frozen BK107.out 1) | ((with_reducible refine gate_dst (N := 33) rfl ?_); refine conv_bytes (base := w.heap.size) w rfl 9 22 _ rfl Try.underlying9 Try.underlying22 Try.underlying5 t106 ?cx (by repeat (first | (with_reducible first | exact HB.out | apply below_alloc | apply pw_below_drewN | apply below_drew1 | refine below_set ?_ GE107.out | refine below_set ?_ GE108.out) | exact HB.out)) (below_size (by repeat (first | (with_reducible first | exact HB.out | apply below_alloc | apply pw_below_drewN | apply below_drew1 | refine below_set ?_ GE107.out | refine below_set ?_ GE108.out) | exact HB.out))) ?cl ?_; (case cx => first | rfl | (go_simp; done)); (case cl => have := LMc5.out; omega); intro v110 w13 ho hb hg; have hat := True.intro; rw [show bytesOf t106 = y109 from Ny109.out.symm] at ho; have n0_ := Aside0.mk (Kd.R_grown (by (with_reducible repeat (first | apply Kd.R_alloc | apply Kd.R_drewN | apply Kd.R_drew)); exact (rf HO104 BK108)) hg (fun _ _ => by simp [Value.ownBlock])); have n1_ := Aside0.mk (blk_grown (g := gb107) (o := .cells #[.int .i64 t105, .string t106] 26 (0, 0)) (dq BK107 NB107_108) hg (by simp [Value.ownBlock])); have n2_ := Aside0.mk (blk_grown (g := gb108) (o := .cells #[.int .i64 t105, .string t106] 26 (0, 0)) (by (with_reducible repeat (first | refine blk_drewN ?_ _ | refine blk_drew ?_ | refine blk_alloc ?_ _)); exact bp2 BK108.out) hg (by simp [Value.ownBlock])); have n3_ := Aside0.mk (hb); have n4_ := Aside0.mk (ho); clear HO104; clear BK107; clear BK108; clear HB; have HO104 := n0_; have BK107 := n1_; have BK108 := n2_; have HB := n3_; have HO111 := n4_; clear n0_ n1_ n2_ n3_ n4_; clear ho hb hg hat))
   go_loopg [7] k (fun kq v7 w' => ∃ (x6_1 : List Int) (x7_1 : Int), v7 = .int .i64 x7_1 ∧ Aside0 (laws_FnMore.l0 kq l0 t102 x6_1 x7_1 t105 t106 t105 t106 = some r) ∧ Aside0 (kq ≤ k) ∧ Aside0 (Kd.R Kd.bool 4 w' w.heap.size (fun _ => True) v103 t102) ∧ Aside0 (RB w' w.heap.size v110 x6_1) ∧ Aside0 (w'.heap[gb107]? = some (.cells #[.int .i64 t105, .string t106] 26 (0, 0))) ∧ Aside0 (w'.heap[gb108]? = some (.cells #[.int .i64 t105, .string t106] 26 (0, 0))) ∧ Aside0 (Below w.heap.size w w'))
   case atStart => exact ⟨(y109), (0), (by first | rfl | (simp; done) | (simp [*]; done)), H', ⟨Nat.le_refl _⟩, ⟨by (with_reducible repeat (first | apply Kd.R_alloc | apply Kd.R_drewN | apply Kd.R_drew)); exact HO104.out⟩, ⟨by (with_reducible repeat (first | apply RB_alloc | apply RB_drewN | apply RB_drew)); exact HO111.out⟩, ⟨by (with_reducible repeat (first | refine blk_drewN ?_ _ | refine blk_drew ?_ | refine blk_alloc ?_ _)); exact BK107.out⟩, ⟨by (with_reducible repeat (first | refine blk_drewN ?_ _ | refine blk_drew ?_ | refine blk_alloc ?_ _)); exact BK108.out⟩, ⟨by repeat (first | (with_reducible first | exact HB.out | apply below_alloc | apply pw_below_drewN | apply below_drew1 | refine below_set ?_ GE107.out | refine below_set ?_ GE108.out) | exact HB.out)⟩⟩
   case round =>
    clear H'
    (try clear c1); (try clear p2); (try clear c3); (try clear c4); (try clear c5); (try clear c10); (try clear c11); (try clear c12); (try clear hcz11_0); (try clear hcz11_1); (try clear hcz12_0); (try clear hcz12_1); (try clear hcz8_0); (try clear hcz8_1); (try clear hfz11_0); (try clear hfz11_1); (try clear hfz12_0); (try clear hfz12_1); (try clear hfz8_0); (try clear hfz8_1)
    obtain ⟨x6_1, x7_1, rfl, HA, HK1, HO_3, HO_6, BK107, BK108, HB⟩ := hrel
    cases gk with
        | zero => exact absurd HA.out (by simp [laws_FnMore.l0])
        | succ k1 =>
     have H := HA.out; clear HA
     simp only [laws_FnMore.l0] at H
     by_cases c14 : x7_1 < (x6_1.length : Int)
     ·rw [if_pos c14] at H
      have c14b0 : decide (x7_1 < (x6_1.length : Int)) = true := decide_eq_true c14; clear c14
      replace H := Option.bind_eq_some_iff.mp H
      obtain ⟨t112, A150, H⟩ := H
      replace H : (if (Int.tmod t112 3) = 0 then (if 0 ≤ x7_1 then (laws_FnMore.l0 k1 l0 t102 (x6_1.set (x7_1 : Int).toNat 48) (wrap64 (x7_1 + 1)) t105 t106 t105 t106) else (none)) else (laws_FnMore.l0 k1 l0 t102 x6_1 (wrap64 (x7_1 + 1)) t105 t106 t105 t106)) = some r := H
      have A15 := Aside0.mk A150; clear A150
      by_cases c16 : (Int.tmod t112 3) = 0
      ·rw [if_pos c16] at H
       have c16b0 : ((Int.tmod t112 3) == 0) = true := beq_iff_eq.mpr c16; have c16b1 : ((Int.tmod t112 3) != 0) = false := bne_eq_false_iff_eq.mpr c16; clear c16
       by_cases c17 : 0 ≤ x7_1
       ·rw [if_pos c17] at H
        have c17b0 : decide (0 ≤ x7_1) = true := decide_eq_true c17; clear c17
        obtain ⟨y113, hy113⟩ : ∃ y_ : List Int, y_ = (x6_1.set (x7_1 : Int).toNat 48) := ⟨_, rfl⟩
        replace H : (laws_FnMore.l0 k1 l0 t102 y113 (wrap64 (x7_1 + 1)) t105 t106 t105 t106) = some r := by first | (rw [hy113]; with_reducible exact H) | (have H2_ := (Option.bind_some _ _).symm.trans H; rw [hy113]; with_reducible exact H2_) | (have H2_ := (Option.bind_some _ _).symm.trans H; with_reducible exact H2_) | with_reducible exact H | (rw [hy113]; exact H) | exact H
        have Ny113 := Aside0.mk hy113; clear hy113
        have H' := Aside0.mk H
        clear H
        obtain ⟨Ao19, co19, eo19⟩ := RB_slice HO_6.out
        subst eo19
        go_wp2_with (first | ((with_reducible refine gate_callee (f := 18) rfl ?_); refine goesL_ (some 43) rfl rfl Try.func18 (by kernel_rfl) rfl #[.slice A0 l0.length c0, .int .i64 (wrap64 (x7_1 + 2))] rfl (by (try simp only [List.map_toArray, List.map_cons, List.map_nil]); first | done | rfl | (simp only [List.length_drop, List.length_take]; rfl)) ?_; (with_reducible refine (laws_at.calls _ _ l0 (wrap64 (x7_1 + 2)) t112 _ ?side1 ?side2 A15.out).mono ?_); (case side1 => repeat (first | exact (Kd.C_below HR0.out HB.out) | (with_reducible refine Kd.C_alloc ?_ _) | (with_reducible refine Kd.C_drewN ?_ _) | (with_reducible refine Kd.C_drew ?_))); (case side2 => exact HC0.out); rintro e w' ⟨rfl, ⟨nd, rfl⟩⟩; refine ⟨_, rfl, ?_⟩; (try (rw [drewN_self wr]; generalize hq_ : World.drewN wr _ = wr; have n0_ : Aside0 (Kd.R Kd.bool 4 wr w.heap.size (fun _ => True) v103 t102) := ⟨by rw [← hq_]; exact (by (with_reducible repeat (first | apply Kd.R_alloc | apply Kd.R_drewN | apply Kd.R_drew)); exact HO_3.out)⟩; have n1_ : Aside0 (RB wr w.heap.size (.slice Ao19 x6_1.length co19) x6_1) := ⟨by rw [← hq_]; exact (by (with_reducible repeat (first | apply RB_alloc | apply RB_drewN | apply RB_drew)); exact HO_6.out)⟩; have n2_ : Aside0 (wr.heap[gb107]? = some (.cells #[.int .i64 t105, .string t106] 26 (0, 0))) := ⟨by rw [← hq_]; exact (dr BK107)⟩; have n3_ : Aside0 (wr.heap[gb108]? = some (.cells #[.int .i64 t105, .string t106] 26 (0, 0))) := ⟨by rw [← hq_]; exact (dr BK108)⟩; have n4_ : Aside0 (Below w.heap.size w wr) := ⟨by rw [← hq_]; exact (by repeat (first | (with_reducible first | exact HB.out | apply below_alloc | apply pw_below_drewN | apply below_drew1 | refine below_set ?_ GE107.out | refine below_set ?_ GE108.out) | exact HB.out))⟩; clear HO_3 HO_6 BK107 BK108 HB hq_; have HO_3 := n0_; have HO_6 := n1_; have BK107 := n2_; have BK108 := n3_; have HB := n4_; clear n0_ n1_ n2_ n3_ n4_)); have p18 : 0 ≤ (x7_1 : Int) := of_decide_eq_true (by first | (with_reducible assumption) | assumption); have q18 : (x7_1 : Int) < ((x6_1.length : Int) : Int) := of_decide_eq_true (by first | (with_reducible assumption) | assumption); obtain ⟨go18, co18, eo18, gb18, gl18, cl18, HG18⟩ := RB_form HO_6.out (by omega); (first | cases eo18 | (injection eo18 with ea_ en_ ec_; (first | subst ea_ | (injection ea_ with ea_; subst ea_)); subst ec_; clear en_)); have GB18 := Aside0.mk gb18; have GG18 := Aside0.mk HG18; clear gb18 gl18 HG18; obtain ⟨hx18_0, hf18_0⟩ := RB_celln HO_6.out (x7_1 : Int) p18 q18; replace p18 := eq_true p18; replace q18 := eq_true q18; obtain ⟨hy20_, hz20_⟩ := RB_celln HO_6.out (x7_1 : Int) (of_decide_eq_true (by first | (with_reducible assumption) | assumption)) (of_decide_eq_true (by first | (with_reducible assumption) | assumption)); have HP20 := RB_putg HO_6.out (x7_1 : Int) 48) | ((with_reducible refine gate_store (t := 5) (p := 48) rfl ?_); refine store_event (t := 5) (p := 48) (v := ?vo_w21) (w1 := (wr.setCell ⟨go18, (x7_1 : Int).toNat, none⟩ (.int .u8 48))) ?hg ?ho ?hn ?hr ?_; (case ho => rfl); (case hg => rfl); (case hn => rfl); (case hr => first | (go_simp; done) | (go_simp; rfl)); intro w21 hw; have hg : wr.grownBy w21 (some go18) := (by rw [hw]; exact HP20.2); have hp_ : RB w21 w.heap.size (.slice (some ⟨go18, 0, none⟩) x6_1.length co19) y113 := (by rw [hw, Ny113.out]; exact HP20.1); clear HP20; have n0_ := Aside0.mk (RB_over (by (with_reducible repeat (first | apply Kd.R_alloc | apply Kd.R_drewN | apply Kd.R_drew)); exact HO_3.out) HO_6.out hg); have n1_ := Aside0.mk (hp_); have n2_ := Aside0.mk (blk_grown (g := gb107) (o := .cells #[.int .i64 t105, .string t106] 26 (0, 0)) (dr BK107) hg (RB_ne HO_6.out BK107.out (by decide))); have n3_ := Aside0.mk (blk_grown (g := gb108) (o := .cells #[.int .i64 t105, .string t106] 26 (0, 0)) (dr BK108) hg (RB_ne HO_6.out BK108.out (by decide))); have n4_ := Aside0.mk ((by rw [hw]; exact below_set (HB.out) GB18.out : Below w.heap.size w w21)); clear HO_3; clear HO_6; clear BK107; clear BK108; clear HB; have HO_3 := n0_; have HO_6 := n1_; have BK107 := n2_; have BK108 := n3_; have HB := n4_; clear n0_ n1_ n2_ n3_ n4_; clear hg hw hp_))
        go_roundg k1
        case measure => have := HK1.out; omega
        case rel => exact ⟨(y113), (wrap64 (x7_1 + 1)), (by first | rfl | (simp; done) | (simp [*]; done)), H', ⟨by have := HK1.out; omega⟩, ⟨by (with_reducible repeat (first | apply Kd.R_alloc | apply Kd.R_drewN | apply Kd.R_drew)); exact HO_3.out⟩, ⟨by (with_reducible repeat (first | apply RB_alloc | apply RB_drewN | apply RB_drew)); exact HO_6.out⟩, ⟨by (with_reducible repeat (first | refine blk_drewN ?_ _ | refine blk_drew ?_ | refine blk_alloc ?_ _)); exact BK107.out⟩, ⟨by (with_reducible repeat (first | refine blk_drewN ?_ _ | refine blk_drew ?_ | refine blk_alloc ?_ _)); exact BK108.out⟩, ⟨by repeat (first | (with_reducible first | exact HB.out | apply below_alloc | apply pw_below_drewN | apply below_drew1 | refine below_set ?_ GE107.out | refine below_set ?_ GE108.out) | exact HB.out)⟩⟩
       ·rw [if_neg c17] at H
        exact absurd H (by simp)
      ·rw [if_neg c16] at H
       have c16b0 : ((Int.tmod t112 3) == 0) = false := beq_eq_false_iff_ne.mpr c16; have c16b1 : ((Int.tmod t112 3) != 0) = true := bne_iff_ne.mpr c16
       have H' := Aside0.mk H
       clear H
       obtain ⟨Ao22, co22, eo22⟩ := RB_slice HO_6.out
       subst eo22
       go_wp2_with (first | ((with_reducible refine gate_callee (f := 18) rfl ?_); refine goesL_ (some 43) rfl rfl Try.func18 (by kernel_rfl) rfl #[.slice A0 l0.length c0, .int .i64 (wrap64 (x7_1 + 2))] rfl (by (try simp only [List.map_toArray, List.map_cons, List.map_nil]); first | done | rfl | (simp only [List.length_drop, List.length_take]; rfl)) ?_; (with_reducible refine (laws_at.calls _ _ l0 (wrap64 (x7_1 + 2)) t112 _ ?side1 ?side2 A15.out).mono ?_); (case side1 => repeat (first | exact (Kd.C_below HR0.out HB.out) | (with_reducible refine Kd.C_alloc ?_ _) | (with_reducible refine Kd.C_drewN ?_ _) | (with_reducible refine Kd.C_drew ?_))); (case side2 => exact HC0.out); rintro e w' ⟨rfl, ⟨nd, rfl⟩⟩; refine ⟨_, rfl, ?_⟩))
       go_roundg k1
       case measure => have := HK1.out; omega
       case rel => exact ⟨(x6_1), (wrap64 (x7_1 + 1)), (by first | rfl | (simp; done) | (simp [*]; done)), H', ⟨by have := HK1.out; omega⟩, ⟨by (with_reducible repeat (first | apply Kd.R_alloc | apply Kd.R_drewN | apply Kd.R_drew)); exact HO_3.out⟩, ⟨by (with_reducible repeat (first | apply RB_alloc | apply RB_drewN | apply RB_drew)); exact HO_6.out⟩, ⟨by (with_reducible repeat (first | refine blk_drewN ?_ _ | refine blk_drew ?_ | refine blk_alloc ?_ _)); exact BK107.out⟩, ⟨by (with_reducible repeat (first | refine blk_drewN ?_ _ | refine blk_drew ?_ | refine blk_alloc ?_ _)); exact BK108.out⟩, ⟨by repeat (first | (with_reducible first | exact HB.out | apply below_alloc | apply pw_below_drewN | apply below_drew1 | refine below_set ?_ GE107.out | refine below_set ?_ GE108.out) | exact HB.out)⟩⟩
     ·rw [if_neg c14] at H
      have c14b0 : decide (x7_1 < (x6_1.length : Int)) = false := decide_eq_false c14; clear c14
      replace H := Option.bind_eq_some_iff.mp H
      obtain ⟨⟨t114, t115⟩, A230, H⟩ := H
      replace H : ((impl_Decide.f k1 t102 t105 t106).bind fun bt116 => (if t115 = true then (if bt116.2 = true then (laws_FnMore.j1 k1 t102 bt116.1 (decide (t114 > bt116.1)) t105 t106) else (laws_FnMore.j1 k1 t102 bt116.1 true t105 t106)) else (laws_FnMore.j1 k1 t102 bt116.1 true t105 t106))) = some r := H
      have A23 := Aside0.mk A230; clear A230
      replace H := Option.bind_eq_some_iff.mp H
      obtain ⟨⟨t116, t117⟩, A240, H⟩ := H
      replace H : (if t115 = true then (if t117 = true then (laws_FnMore.j1 k1 t102 t116 (decide (t114 > t116)) t105 t106) else (laws_FnMore.j1 k1 t102 t116 true t105 t106)) else (laws_FnMore.j1 k1 t102 t116 true t105 t106)) = some r := H
      have A24 := Aside0.mk A240; clear A240; have HC25 := Aside0.mk H; clear H
      obtain ⟨Ao26, co26, eo26⟩ := RB_slice HO_6.out
      subst eo26
      have hcv27 := RB_string (P := Try.prog) Try.underlying22 Try.underlying5 Try.underlying9 HO_6.out; have hnb28 := NB108_107.out; have hnc28 := NB107_108.out; have hcz29_0 : wr.cell? ⟨gb108, 0, none⟩ = some (.int .i64 t105) := (blk_cell BK108.out 0).trans rfl; have hcz29_1 : wr.cell? ⟨gb108, 1, none⟩ = some (.string t106) := (blk_cell BK108.out 1).trans rfl; have hfz29_0 := blk_frozen BK108.out 0; have hfz29_1 := blk_frozen BK108.out 1
      obtain ⟨Ao30, co30, eo30⟩ := Kd.R_slice HO_3.out
      subst eo30
      go_upto_region 14 with (first | ((with_reducible refine gate_callee (f := 13) rfl ?_); refine goesL_ (some 55) rfl rfl Try.func13 (by kernel_rfl) rfl #[.slice Ao30 t102.length co30, .agg #[.int .i64 t105, .string (strOfNums x6_1)]] rfl (by (try simp only [List.map_toArray, List.map_cons, List.map_nil]); first | done | rfl | (simp only [List.length_drop, List.length_take]; rfl)) ?_; (with_reducible refine (impl_Decide.calls k1 _ _ t102 t105 (strOfNums x6_1) t114 t115 _ ?side1 ?side2 A23.out).mono ?_); (case side1 => refine (Kd.R_reads' (e := 4) (base := w.heap.size) (ok := fun k_ => True) (n := t102.length) (c := co30) ?_).2.2; exact (by (with_reducible repeat (first | apply Kd.R_alloc | apply Kd.R_drewN | apply Kd.R_drew)); exact (rf HO_3 BK108))); (case side2 => exact (Kd.R_reads' HO_3.out).2.1); rintro e w31 ⟨rfl, hb⟩; refine ⟨_, rfl, ?_⟩; have n0_ := rbf HO_3 BK108 hb; have n1_ := Aside0.mk (RB_below (RB_set HO_6.out BK108.out 1 (.string (strOfNums x6_1))) hb); have n2_ := Aside0.mk (blk_below (dq BK107 NB107_108) hb); have n3_ := Aside0.mk (blk_below (g := gb108) (o := .cells #[.int .i64 t105, .string (strOfNums x6_1)] 26 (0, 0)) (by (with_reducible repeat (first | refine blk_drewN ?_ _ | refine blk_drew ?_ | refine blk_alloc ?_ _)); refine blk_put (cs := #[.int .i64 t105, .string t106]) ?_ 1 _ rfl; (with_reducible repeat (first | refine blk_drewN ?_ _ | refine blk_drew ?_ | refine blk_alloc ?_ _)); exact BK108.out) hb); have n4_ := bs2 HB hb GE107 GE108; clear HO_3; clear HO_6; clear BK107; clear BK108; clear HB; have HO_3 := n0_; have HO_6 := n1_; have BK107 := n2_; have BK108 := n3_; have HB := n4_; clear n0_ n1_ n2_ n3_ n4_; (try clear hb); (try clear hb2); (try clear hk); (try clear hi); have hcz32_0 : w31.cell? ⟨gb107, 0, none⟩ = some (.int .i64 t105) := (blk_cell BK107.out 0).trans rfl; have hcz32_1 : w31.cell? ⟨gb107, 1, none⟩ = some (.string t106) := (blk_cell BK107.out 1).trans rfl; have hfz32_0 := blk_frozen BK107.out 0; have hfz32_1 := blk_frozen BK107.out 1) | ((with_reducible refine gate_callee (f := 13) rfl ?_); refine goesL_ (some 61) rfl rfl Try.func13 (by kernel_rfl) rfl #[.slice Ao30 t102.length co30, .agg #[.int .i64 t105, .string t106]] rfl (by (try simp only [List.map_toArray, List.map_cons, List.map_nil]); first | done | rfl | (simp only [List.length_drop, List.length_take]; rfl)) ?_; (with_reducible refine (impl_Decide.calls k1 _ _ t102 t105 t106 t116 t117 _ ?side1 ?side2 A24.out).mono ?_); (case side1 => repeat (first | exact (Kd.R_reads' HO_3.out).2.2 | (with_reducible refine Kd.C_alloc ?_ _) | (with_reducible refine Kd.C_drewN ?_ _) | (with_reducible refine Kd.C_drew ?_))); (case side2 => exact (Kd.R_reads' HO_3.out).2.1); rintro e w33 ⟨rfl, hb⟩; refine ⟨_, rfl, ?_⟩; have n0_ := rb HO_3 hb; have n1_ := Aside0.mk (RB_below HO_6.out hb); have n2_ := bb BK107 hb; have n3_ := bb BK108 hb; have n4_ := bs2 HB hb GE107 GE108; clear HO_3; clear HO_6; clear BK107; clear BK108; clear HB; have HO_3 := n0_; have HO_6 := n1_; have BK107 := n2_; have BK108 := n3_; have HB := n4_; clear n0_ n1_ n2_ n3_ n4_; (try clear hb); (try clear hb2); (try clear hk); (try clear hi)))
      (try simp only [Act.put, List.setIfInBounds_toArray, List.set_cons_zero, List.set_cons_succ])
      go_cut [74] (fun v74 wc => ∃ (kq : Nat) (x74_24 : Bool), v74 = .bool x74_24 ∧ Aside0 (laws_FnMore.j1 kq t102 t116 x74_24 t105 t106 = some r) ∧ Aside0 (kq ≤ k1) ∧ Aside0 (Kd.R Kd.bool 4 wc w.heap.size (fun _ => True) (.slice Ao30 t102.length co30) t102) ∧ Aside0 (wc.heap[gb107]? = some (.cells #[.int .i64 t105, .string t106] 26 (0, 0))) ∧ Aside0 (wc.heap[gb108]? = some (.cells #[.int .i64 t105, .string (strOfNums x6_1)] 26 (0, 0))) ∧ Aside0 (Below w.heap.size w wc))
      case first =>
       have H := HC25.out; clear HC25
       by_cases c34 : t115 = true
       ·subst c34
        have H1 : (if t117 = true then (laws_FnMore.j1 k1 t102 t116 (decide (t114 > t116)) t105 t106) else (laws_FnMore.j1 k1 t102 t116 true t105 t106)) = some r := by rw [if_pos rfl] at H; exact H
        clear H; have H := H1; clear H1
        by_cases c35 : t117 = true
        ·subst c35
         have H1 : (laws_FnMore.j1 k1 t102 t116 (decide (t114 > t116)) t105 t106) = some r := by rw [if_pos rfl] at H; exact H
         clear H; have H := H1; clear H1
         have H' := Aside0.mk H
         clear H
         go_wp2
         go_meet
         case rel => exact ⟨_, (decide (t114 > t116)), (by first | rfl | (simp; done) | (simp [*]; done)), H', ⟨by have := HK1.out; first | omega | exact Nat.le_refl _⟩, ⟨by (with_reducible repeat (first | apply Kd.R_alloc | apply Kd.R_drewN | apply Kd.R_drew)); exact HO_3.out⟩, ⟨by (with_reducible repeat (first | refine blk_drewN ?_ _ | refine blk_drew ?_ | refine blk_alloc ?_ _)); exact BK107.out⟩, ⟨by (with_reducible repeat (first | refine blk_drewN ?_ _ | refine blk_drew ?_ | refine blk_alloc ?_ _)); exact BK108.out⟩, ⟨by repeat (first | (with_reducible first | exact HB.out | apply below_alloc | apply pw_below_drewN | apply below_drew1 | refine below_set ?_ GE107.out | refine below_set ?_ GE108.out) | exact HB.out)⟩⟩
        ·replace c35 := Bool.eq_false_iff.mpr c35
         subst c35
         have H1 : (laws_FnMore.j1 k1 t102 t116 true t105 t106) = some r := by rw [if_neg (show ¬ (false = true) by decide)] at H; exact H
         clear H; have H := H1; clear H1
         have H' := Aside0.mk H
         clear H
         go_wp2
         go_meet
         case rel => exact ⟨_, (true), (by first | rfl | (simp; done) | (simp [*]; done)), H', ⟨by have := HK1.out; first | omega | exact Nat.le_refl _⟩, ⟨by (with_reducible repeat (first | apply Kd.R_alloc | apply Kd.R_drewN | apply Kd.R_drew)); exact HO_3.out⟩, ⟨by (with_reducible repeat (first | refine blk_drewN ?_ _ | refine blk_drew ?_ | refine blk_alloc ?_ _)); exact BK107.out⟩, ⟨by (with_reducible repeat (first | refine blk_drewN ?_ _ | refine blk_drew ?_ | refine blk_alloc ?_ _)); exact BK108.out⟩, ⟨by repeat (first | (with_reducible first | exact HB.out | apply below_alloc | apply pw_below_drewN | apply below_drew1 | refine below_set ?_ GE107.out | refine below_set ?_ GE108.out) | exact HB.out)⟩⟩
       ·replace c34 := Bool.eq_false_iff.mpr c34
        subst c34
        have H1 : (laws_FnMore.j1 k1 t102 t116 true t105 t106) = some r := by rw [if_neg (show ¬ (false = true) by decide)] at H; exact H
        clear H; have H := H1; clear H1
        have H' := Aside0.mk H
        clear H
        go_wp2
        go_meet
        case rel => exact ⟨_, (true), (by first | rfl | (simp; done) | (simp [*]; done)), H', ⟨by have := HK1.out; first | omega | exact Nat.le_refl _⟩, ⟨by (with_reducible repeat (first | apply Kd.R_alloc | apply Kd.R_drewN | apply Kd.R_drew)); exact HO_3.out⟩, ⟨by (with_reducible repeat (first | refine blk_drewN ?_ _ | refine blk_drew ?_ | refine blk_alloc ?_ _)); exact BK107.out⟩, ⟨by (with_reducible repeat (first | refine blk_drewN ?_ _ | refine blk_drew ?_ | refine blk_alloc ?_ _)); exact BK108.out⟩, ⟨by repeat (first | (with_reducible first | exact HB.out | apply below_alloc | apply pw_below_drewN | apply below_drew1 | refine below_set ?_ GE107.out | refine below_set ?_ GE108.out) | exact HB.out)⟩⟩
      case rest =>
       clear HC25
       (try clear c1); (try clear p1); (try clear q1); (try clear hx1); (try clear hf1); (try clear c2); (try clear p2); (try clear hcv2); (try clear c3); (try clear c4); (try clear c5); (try clear p6); (try clear c10); (try clear c11); (try clear c12); (try clear c13); (try clear c14); (try clear c14b0); (try clear c16); (try clear c16b0); (try clear c16b1); (try clear c17); (try clear c17b0); (try clear c18); (try clear p18); (try clear q18); (try clear hx18); (try clear hf18); (try clear hcv27); (try clear c28); (try clear c34); (try clear c35); (try clear hcz11_0); (try clear hcz11_1); (try clear hcz12_0); (try clear hcz12_1); (try clear hcz29_0); (try clear hcz29_1); (try clear hcz32_0); (try clear hcz32_1); (try clear hcz8_0); (try clear hcz8_1); (try clear hfz11_0); (try clear hfz11_1); (try clear hfz12_0); (try clear hfz12_1); (try clear hfz29_0); (try clear hfz29_1); (try clear hfz32_0); (try clear hfz32_1); (try clear hfz8_0); (try clear hfz8_1); (try clear hx18_0); (try clear p18); (try clear p2); (try clear q18)
       obtain ⟨kq, x74_24, rfl, HA, HJ24, HO_3, BK107, BK108, HB⟩ := hcut
       cases kq with
              | zero => exact absurd HA.out (by simp [laws_FnMore.j1])
              | succ kj24 =>
        have H := HA.out; clear HA
        simp only [laws_FnMore.j1] at H
        by_cases c36 : x74_24 = true
        ·subst c36
         have H1 : (some false) = some r := by rw [if_pos rfl] at H; exact H
         clear H; have H := H1; clear H1
         exact absurd ((Option.some.inj H).trans HT.out) (by decide)
        ·replace c36 := Bool.eq_false_iff.mpr c36
         subst c36
         have H1 : ((impl_Choose.f kj24 t102 t105 t106).bind fun bt118 => (if t105 = 0 then (some (!bt118.2)) else ((impl_Half.f kj24 t105 t106 bt118.1).bind fun bt120 => (if 1 ≤ (t102.length : Int) then ((impl_Decide.f kj24 (t102.drop 1) bt120.1 bt120.2.1).bind fun bt128 => (if 0 < (t102.length : Int) then (if rdOf false t102 0 = true then (if t116 = 0 then (laws_FnMore.j2 kj24 t102 t116 bt118.1 bt118.2 bt128.1 true t105 t106) else (laws_FnMore.j2 kj24 t102 t116 bt118.1 bt118.2 bt128.1 false t105 t106)) else (laws_FnMore.j2 kj24 t102 t116 bt118.1 bt118.2 bt128.1 (t116 == 1) t105 t106)) else (none))) else (none))))) = some r := by rw [if_neg (show ¬ (false = true) by decide)] at H; exact H
         clear H; have H := H1; clear H1
         replace H := Option.bind_eq_some_iff.mp H
         obtain ⟨⟨t118, t119⟩, A370, H⟩ := H
         replace H : (if t105 = 0 then (some (!t119)) else ((impl_Half.f kj24 t105 t106 t118).bind fun bt120 => (if 1 ≤ (t102.length : Int) then ((impl_Decide.f kj24 (t102.drop 1) bt120.1 bt120.2.1).bind fun bt128 => (if 0 < (t102.length : Int) then (if rdOf false t102 0 = true then (if t116 = 0 then (laws_FnMore.j2 kj24 t102 t116 t118 t119 bt128.1 true t105 t106) else (laws_FnMore.j2 kj24 t102 t116 t118 t119 bt128.1 false t105 t106)) else (laws_FnMore.j2 kj24 t102 t116 t118 t119 bt128.1 (t116 == 1) t105 t106)) else (none))) else (none)))) = some r := H
         have A37 := Aside0.mk A370; clear A370
         by_cases c38 : t105 = 0
         ·rw [if_pos c38] at H
          have c38b0 : (t105 == 0) = true := beq_iff_eq.mpr c38; have c38b1 : (t105 != 0) = false := bne_eq_false_iff_eq.mpr c38; clear c38
          obtain rfl := Option.some.inj H
          have hnb39 := NB107_108.out; have hnc39 := NB108_107.out; have hcz40_0 : wc.cell? ⟨gb107, 0, none⟩ = some (.int .i64 t105) := (blk_cell BK107.out 0).trans rfl; have hcz40_1 : wc.cell? ⟨gb107, 1, none⟩ = some (.string t106) := (blk_cell BK107.out 1).trans rfl; have hfz40_0 := blk_frozen BK107.out 0; have hfz40_1 := blk_frozen BK107.out 1
          go_wp2_with (first | ((with_reducible refine gate_callee (f := 19) rfl ?_); refine goesL_ (some 78) rfl rfl Try.func19 (by kernel_rfl) rfl #[.slice Ao30 t102.length co30, .agg #[.int .i64 t105, .string t106]] rfl (by (try simp only [List.map_toArray, List.map_cons, List.map_nil]); first | done | rfl | (simp only [List.length_drop, List.length_take]; rfl)) ?_; (with_reducible refine (impl_Choose.calls kj24 _ _ t102 t105 t106 t118 t119 _ ?side1 ?side2 A37.out).mono ?_); (case side1 => repeat (first | exact (Kd.R_reads' HO_3.out).2.2 | (with_reducible refine Kd.C_alloc ?_ _) | (with_reducible refine Kd.C_drewN ?_ _) | (with_reducible refine Kd.C_drew ?_))); (case side2 => exact (Kd.R_reads' HO_3.out).2.1); rintro e w41 ⟨rfl, hb⟩; refine ⟨_, rfl, ?_⟩; have n0_ := rb HO_3 hb; have n1_ := bb BK107 hb; have n2_ := bb BK108 hb; have n3_ := bs2 HB hb GE107 GE108; clear HO_3; clear BK107; clear BK108; clear HB; have HO_3 := n0_; have BK107 := n1_; have BK108 := n2_; have HB := n3_; clear n0_ n1_ n2_ n3_; (try clear hb); (try clear hb2); (try clear hk); (try clear hi); have hcz42_0 : w41.cell? ⟨gb107, 0, none⟩ = some (.int .i64 t105) := (blk_cell BK107.out 0).trans rfl; have hcz42_1 : w41.cell? ⟨gb107, 1, none⟩ = some (.string t106) := (blk_cell BK107.out 1).trans rfl; have hfz42_0 := blk_frozen BK107.out 0; have hfz42_1 := blk_frozen BK107.out 1))
          go_ret
          exact ⟨by first | rfl | (simp [errW_none, errW_some] <;> rfl) | (simp [*, errW_none, errW_some] <;> rfl), by repeat (first | (with_reducible first | exact HB.out | apply below_alloc | apply pw_below_drewN | apply below_drew1 | refine below_set ?_ GE107.out | refine below_set ?_ GE108.out) | exact HB.out)⟩
         ·rw [if_neg c38] at H
          have c38b0 : (t105 == 0) = false := beq_eq_false_iff_ne.mpr c38; have c38b1 : (t105 != 0) = true := bne_iff_ne.mpr c38
          replace H := Option.bind_eq_some_iff.mp H
          obtain ⟨⟨t120, t121, t122⟩, A430, H⟩ := H
          replace H : (if 1 ≤ (t102.length : Int) then ((impl_Decide.f kj24 (t102.drop 1) t120 t121).bind fun bt128 => (if 0 < (t102.length : Int) then (if rdOf false t102 0 = true then (if t116 = 0 then (laws_FnMore.j2 kj24 t102 t116 t118 t119 bt128.1 true t105 t106) else (laws_FnMore.j2 kj24 t102 t116 t118 t119 bt128.1 false t105 t106)) else (laws_FnMore.j2 kj24 t102 t116 t118 t119 bt128.1 (t116 == 1) t105 t106)) else (none))) else (none)) = some r := H
          have A43 := Aside0.mk A430; clear A430
          by_cases c44 : 1 ≤ (t102.length : Int)
          ·rw [if_pos c44] at H
           have c44b0 := eq_true c44; have c44b1 : decide (1 ≤ (t102.length : Int)) = true := decide_eq_true c44; clear c44
           obtain ⟨y124, hy124⟩ : ∃ y_ : List Bool, y_ = (t102.drop 1) := ⟨_, rfl⟩
           replace H : ((impl_Decide.f kj24 y124 t120 t121).bind fun bt128 => (if 0 < (t102.length : Int) then (if rdOf false t102 0 = true then (if t116 = 0 then (laws_FnMore.j2 kj24 t102 t116 t118 t119 bt128.1 true t105 t106) else (laws_FnMore.j2 kj24 t102 t116 t118 t119 bt128.1 false t105 t106)) else (laws_FnMore.j2 kj24 t102 t116 t118 t119 bt128.1 (t116 == 1) t105 t106)) else (none))) = some r := by first | (rw [hy124]; with_reducible exact H) | (have H2_ := (Option.bind_some _ _).symm.trans H; rw [hy124]; with_reducible exact H2_) | (have H2_ := (Option.bind_some _ _).symm.trans H; with_reducible exact H2_) | with_reducible exact H | (rw [hy124]; exact H) | exact H
           have Ny124 := Aside0.mk hy124; clear hy124
           replace H := Option.bind_eq_some_iff.mp H
           obtain ⟨⟨t128, t129⟩, A450, H⟩ := H
           replace H : (if 0 < (t102.length : Int) then (if rdOf false t102 0 = true then (if t116 = 0 then (laws_FnMore.j2 kj24 t102 t116 t118 t119 t128 true t105 t106) else (laws_FnMore.j2 kj24 t102 t116 t118 t119 t128 false t105 t106)) else (laws_FnMore.j2 kj24 t102 t116 t118 t119 t128 (t116 == 1) t105 t106)) else (none)) = some r := H
           have A45 := Aside0.mk A450; clear A450; have HC46 := Aside0.mk H; clear H; have hnb47 := NB107_108.out; have hnc47 := NB108_107.out; have hcz48_0 : wc.cell? ⟨gb107, 0, none⟩ = some (.int .i64 t105) := (blk_cell BK107.out 0).trans rfl; have hcz48_1 : wc.cell? ⟨gb107, 1, none⟩ = some (.string t106) := (blk_cell BK107.out 1).trans rfl; have hfz48_0 := blk_frozen BK107.out 0; have hfz48_1 := blk_frozen BK107.out 1
           try go_wp2_with (first | ((with_reducible refine gate_callee (f := 19) rfl ?_); refine goesL_ (some 78) rfl rfl Try.func19 (by kernel_rfl) rfl #[.slice Ao30 t102.length co30, .agg #[.int .i64 t105, .string t106]] rfl (by (try simp only [List.map_toArray, List.map_cons, List.map_nil]); first | done | rfl | (simp only [List.length_drop, List.length_take]; rfl)) ?_; (with_reducible refine (impl_Choose.calls kj24 _ _ t102 t105 t106 t118 t119 _ ?side1 ?side2 A37.out).mono ?_); (case side1 => repeat (first | exact (Kd.R_reads' HO_3.out).2.2 | (with_reducible refine Kd.C_alloc ?_ _) | (with_reducible refine Kd.C_drewN ?_ _) | (with_reducible refine Kd.C_drew ?_))); (case side2 => exact (Kd.R_reads' HO_3.out).2.1); rintro e w49 ⟨rfl, hb⟩; refine ⟨_, rfl, ?_⟩; have n0_ := rb HO_3 hb; have n1_ := bb BK107 hb; have n2_ := bb BK108 hb; have n3_ := bs2 HB hb GE107 GE108; clear HO_3; clear BK107; clear BK108; clear HB; have HO_3 := n0_; have BK107 := n1_; have BK108 := n2_; have HB := n3_; clear n0_ n1_ n2_ n3_; (try clear hb); (try clear hb2); (try clear hk); (try clear hi); have hcz50_0 : w49.cell? ⟨gb107, 0, none⟩ = some (.int .i64 t105) := (blk_cell BK107.out 0).trans rfl; have hcz50_1 : w49.cell? ⟨gb107, 1, none⟩ = some (.string t106) := (blk_cell BK107.out 1).trans rfl; have hfz50_0 := blk_frozen BK107.out 0; have hfz50_1 := blk_frozen BK107.out 1) | ((with_reducible refine gate_callee (f := 20) rfl ?_); refine goesL_ (some 89) rfl rfl Try.func20 (by kernel_rfl) rfl #[.agg #[.int .i64 t105, .string t106], .int .i64 t118] rfl (by (try simp only [List.map_toArray, List.map_cons, List.map_nil]); first | done | rfl | (simp only [List.length_drop, List.length_take]; rfl)) ?_; (with_reducible refine (impl_Half.calls kj24 t105 t106 t118 t120 t121 t122 _ A43.out).mono ?_); rintro e w51 ⟨rfl, hb⟩; refine ⟨_, rfl, ?_⟩; have n0_ := rb HO_3 hb; have n1_ := bb BK107 hb; have n2_ := bb BK108 hb; have n3_ := bs2 HB hb GE107 GE108; clear HO_3; clear BK107; clear BK108; clear HB; have HO_3 := n0_; have BK107 := n1_; have BK108 := n2_; have HB := n3_; clear n0_ n1_ n2_ n3_; (try clear hb); (try clear hb2); (try clear hk); (try clear hi)) | ((with_reducible refine gate_dst (N := 14) rfl ?_); (try (refine gate_guard (by rfl) ?_; dsimp only)); refine box_event ?hg (N := 14) ?hd (cs := #[.int .i64 0, .string (⟨#[]⟩ : ByteArray)]) (t := 26) ?hr ?_; (case hd => rfl); (case hg => rfl); (case hr => first | (go_simp; done) | (go_simp; rfl)); intro gb123 hg w52 hbox hb; have n0_ := rb HO_3 hb; have n1_ := bb BK107 hb; have n2_ := bb BK108 hb; have n3_ := bs2 HB hb GE107 GE108; have n4_ := Aside0.mk (hbox); have n5_ := bz2 hg HB GE107 GE108; have n6_ := bz2 hg HB GE107 GE108; have n7_ := nl hg BK107; have n8_ := ng hg BK107; have n9_ := nl hg BK108; have n10_ := ng hg BK108; clear HO_3; clear BK107; clear BK108; clear HB; have HO_3 := n0_; have BK107 := n1_; have BK108 := n2_; have HB := n3_; have BK123 := n4_; have GW123 := n5_; have GE123 := n6_; have NB107_123 := n7_; have NB123_107 := n8_; have NB108_123 := n9_; have NB123_108 := n10_; clear n0_ n1_ n2_ n3_ n4_ n5_ n6_ n7_ n8_ n9_ n10_; clear hb hbox hg; have hnb53 := NB123_107.out; have hnc53 := NB107_123.out; have hnb54 := NB123_108.out; have hnc54 := NB108_123.out; have hcz55_0 : w52.cell? ⟨gb123, 0, none⟩ = some (.int .i64 0) := (blk_cell BK123.out 0).trans rfl; have hcz55_1 : w52.cell? ⟨gb123, 1, none⟩ = some (.string (⟨#[]⟩ : ByteArray)) := (blk_cell BK123.out 1).trans rfl; have hfz55_0 := blk_frozen BK123.out 0; have hfz55_1 := blk_frozen BK123.out 1))
           have n0_ : Aside0 (Kd.R Kd.bool 4 ((w52.setCell ⟨gb123, 0, none⟩ (.int .i64 t120)).setCell ⟨gb123, 1, none⟩ (.string t121)) w.heap.size (fun _ => True) (.slice Ao30 t102.length co30) t102) := ⟨by (with_reducible repeat (first | apply Kd.R_alloc | apply Kd.R_drewN | apply Kd.R_drew)); exact Kd.R_mono (Kd.R_far (p := ⟨gb123, 1, none⟩) (Kd.R_far (p := ⟨gb123, 0, none⟩) (Kd.R_types HO_3.out BK123.out (by decide)) (fun _ hk => hk.2) (.int .i64 t120)) (fun _ hk => hk.2) (.string t121)) (fun _ hk => trivial)⟩
           have n1_ : Aside0 (((w52.setCell ⟨gb123, 0, none⟩ (.int .i64 t120)).setCell ⟨gb123, 1, none⟩ (.string t121)).heap[gb107]? = some (.cells #[.int .i64 t105, .string t106] 26 (0, 0))) := ⟨by (with_reducible repeat (first | refine blk_drewN ?_ _ | refine blk_drew ?_ | refine blk_alloc ?_ _)); refine blk_far ?_ NB107_123.out _; (with_reducible repeat (first | refine blk_drewN ?_ _ | refine blk_drew ?_ | refine blk_alloc ?_ _)); refine blk_far ?_ NB107_123.out _; (with_reducible repeat (first | refine blk_drewN ?_ _ | refine blk_drew ?_ | refine blk_alloc ?_ _)); exact BK107.out⟩
           have n2_ : Aside0 (((w52.setCell ⟨gb123, 0, none⟩ (.int .i64 t120)).setCell ⟨gb123, 1, none⟩ (.string t121)).heap[gb108]? = some (.cells #[.int .i64 t105, .string (strOfNums x6_1)] 26 (0, 0))) := ⟨by (with_reducible repeat (first | refine blk_drewN ?_ _ | refine blk_drew ?_ | refine blk_alloc ?_ _)); refine blk_far ?_ NB108_123.out _; (with_reducible repeat (first | refine blk_drewN ?_ _ | refine blk_drew ?_ | refine blk_alloc ?_ _)); refine blk_far ?_ NB108_123.out _; (with_reducible repeat (first | refine blk_drewN ?_ _ | refine blk_drew ?_ | refine blk_alloc ?_ _)); exact BK108.out⟩
           have n3_ : Aside0 (((w52.setCell ⟨gb123, 0, none⟩ (.int .i64 t120)).setCell ⟨gb123, 1, none⟩ (.string t121)).heap[gb123]? = some (.cells #[.int .i64 t120, .string t121] 26 (0, 0))) := ⟨by (with_reducible repeat (first | refine blk_drewN ?_ _ | refine blk_drew ?_ | refine blk_alloc ?_ _)); refine blk_put (cs := #[.int .i64 t120, .string (⟨#[]⟩ : ByteArray)]) ?_ 1 _ rfl; (with_reducible repeat (first | refine blk_drewN ?_ _ | refine blk_drew ?_ | refine blk_alloc ?_ _)); refine blk_put (cs := #[.int .i64 0, .string (⟨#[]⟩ : ByteArray)]) ?_ 0 _ rfl; (with_reducible repeat (first | refine blk_drewN ?_ _ | refine blk_drew ?_ | refine blk_alloc ?_ _)); exact BK123.out⟩
           have n4_ : Aside0 (Below w.heap.size w ((w52.setCell ⟨gb123, 0, none⟩ (.int .i64 t120)).setCell ⟨gb123, 1, none⟩ (.string t121))) := ⟨by repeat (first | (with_reducible first | exact HB.out | apply below_alloc | apply pw_below_drewN | apply below_drew1 | refine below_set ?_ GE107.out | refine below_set ?_ GE108.out | refine below_set ?_ GE123.out) | exact HB.out)⟩
           (try clear HO_3)
           (try clear BK107)
           (try clear BK108)
           (try clear BK123)
           (try clear HB)
           generalize ((w52.setCell ⟨gb123, 0, none⟩ (.int .i64 t120)).setCell ⟨gb123, 1, none⟩ (.string t121)) = w56 at n0_ n1_ n2_ n3_ n4_ ⊢
           have HO_3 := n0_; have BK107 := n1_; have BK108 := n2_; have BK123 := n3_; have HB := n4_; clear n0_ n1_ n2_ n3_ n4_; have n0_ := Aside0.mk (Kd.R_drew HO_3.out); have n1_ := Aside0.mk (blk_drew BK107.out); have n2_ := Aside0.mk (blk_drew BK108.out); have n3_ := Aside0.mk (blk_drew BK123.out); have n4_ := Aside0.mk (below_drew1 HB.out); clear HO_3; clear BK107; clear BK108; clear BK123; clear HB; have HO_3 := n0_; have BK107 := n1_; have BK108 := n2_; have BK123 := n3_; have HB := n4_; clear n0_ n1_ n2_ n3_ n4_
           have q58 : (1 : Int) ≤ ((t102.length : Int) : Int) := of_decide_eq_true (by first | (with_reducible assumption) | assumption)
           obtain ⟨i058, hi058, _, hsz58, _⟩ := info_parts info4
           have hroom58 : t102.length ≤ co30 := (Kd.R_reads' HO_3.out).2.1; have hC58 : Kd.C Kd.bool _ Ao30 t102.length t102 := (Kd.R_reads' HO_3.out).2.2
           have hcut58 := cut_from (P := Try.prog) 24 4 .i64 Try.underlying24 hi058 1 hsz58 Ao30 t102.length co30 1 (by omega) q58
           have hr58 := Kd.C_drop (m := (1 : Int).toNat) (c := co30) hC58 (by omega) hroom58
           obtain ⟨A58, hA58⟩ : ∃ A1, A1 = (if co30 = (1 : Int).toNat then Ao30 else (Ao30 : Option Addr).map (·.add ((1 : Int).toNat * 1))) := ⟨_, rfl⟩
           obtain ⟨c58, hc58⟩ : ∃ c1, c1 = co30 - (1 : Int).toNat := ⟨_, rfl⟩
           have hy58 : y124.length = t102.length - (1 : Int).toNat := (by rw [Ny124.out, List.length_drop] <;> omega)
           rw [show (t102).drop (1 : Int).toNat = y124 from Ny124.out.symm] at hr58
           replace hr58 : Kd.C Kd.bool _ A58 y124.length y124 := (by rw [hA58]; exact hr58)
           rw [← hy58, ← hA58, ← hc58] at hcut58
           have HR127 := Aside0.mk hr58
           have HC127 := Aside0.mk (show y124.length ≤ c58 from by rw [hy58, hc58]; exact Nat.sub_le_sub_right hroom58 _)
           clear hr58 hC58 hroom58 hi058 hsz58 hc58; have KY58 := Aside0.mk hy58; have KA58 := Aside0.mk hA58; clear hy58 hA58
           have KL58 := Aside0.mk (show 1 ≤ t102.length from by omega)
           replace q58 := eq_true q58
           refine start_ (n := 9) (S := fun w' => w'.cell? ⟨gb123, 0, none⟩ = some (.int .i64 t120) ∧ w'.cell? ⟨gb123, 1, none⟩ = some (.string t121)) (ds := []) #[false, false, false, false, false, false, false, false, false] (by kernel_rfl) rfl rfl ⟨(blk_cell BK123.out 0).trans rfl, (blk_cell BK123.out 1).trans rfl⟩ (fun hHeld => ?_); refine with_tabW laws_FnMore.tab20 laws_FnMore.bits20 (fun HT_ HW_ => ?_)
           generalize w56.drew = w57 at HO_3 BK107 BK108 BK123 HB HR127 hHeld ⊢
           refine pure_ (i := 0) (N := some 93) (v := ?_) (a' := ?_) #[true, false, false, false, false, false, false, false, false] rfl rfl (any_of HT_.out (by kernel_rfl)) (fun _ _ _ h => h) (Or.inl ⟨by rfl, ?_⟩) ?_ ?_
           rotate_left
           ·intro w'
            go_simp
            with_reducible rfl
           rotate_left
           ·simp only [Act.put, List.setIfInBounds_toArray, List.set_cons_zero, List.set_cons_succ, i64_w, i32_w]
            rfl
           refine pure_ (i := 1) (N := some 94) (v := ?_) (a' := ?_) #[true, true, false, false, false, false, false, false, false] rfl rfl (any_of HT_.out (by kernel_rfl)) (fun _ _ _ h => h) (Or.inl ⟨by rfl, ?_⟩) ?_ ?_
           rotate_left
           ·intro w'
            go_simp
            with_reducible rfl
           rotate_left
           ·simp only [Act.put, List.setIfInBounds_toArray, List.set_cons_zero, List.set_cons_succ, i64_w, i32_w]
            rfl
           refine take_ (i := 2) (N := some 95) (v := ?_) (a' := ?_) #[true, true, true, false, false, false, false, false, false] rfl rfl (take_ofW HT_.out HW_.out (by kernel_rfl)) (fun _ _ _ h => h) (Or.inl ⟨by rfl, ?_⟩) hHeld ?_ ?_
           rotate_left
           ·rintro w' ⟨s0, s1⟩
            go_simp
            with_reducible rfl
           rotate_left
           ·simp only [Act.put, List.setIfInBounds_toArray, List.set_cons_zero, List.set_cons_succ, i64_w, i32_w]
            rfl
           refine one_ (i := 3) (N := some 96) #[true, true, true, true, false, false, false, false, false] rfl rfl (one_of HT_.out (by kernel_rfl)) (by decide) (fun K hK => ?_)
           refine goes_ Try.func13 (by kernel_rfl) rfl #[.slice A58 y124.length c58, .agg #[.int .i64 t120, .string t121]] (by rfl) rfl rfl (by (try simp only [List.map_toArray, List.map_cons, List.map_nil]); first | done | rfl | (simp only [List.length_drop, List.length_take]; rfl)) ?_
           with_reducible refine (impl_Decide.calls kj24 _ _ y124 t120 t121 t128 t129 _ ?side1 ?side2 A45.out).mono ?_
           (case side1 => repeat (first | exact (by repeat (first | (with_reducible exact HR127.out) | (with_reducible refine Kd.C_alloc ?_ _) | (with_reducible refine Kd.C_drewN ?_ _) | (with_reducible refine Kd.C_drew ?_) | exact HR127.out)) | (with_reducible refine Kd.C_alloc ?_ _) | (with_reducible refine Kd.C_drewN ?_ _) | (with_reducible refine Kd.C_drew ?_)))
           (case side2 => exact HC127.out)
           rintro e w59 ⟨rfl, hb⟩
           refine ⟨_, rfl, ?_⟩
           have n0_ := rb HO_3 hb; have n1_ := bb BK107 hb; have n2_ := bb BK108 hb; have n3_ := bb BK123 hb
           have n4_ := Aside0.mk (Kd.C_below (by repeat (first | (with_reducible exact HR127.out) | (with_reducible refine Kd.C_alloc ?_ _) | (with_reducible refine Kd.C_drewN ?_ _) | (with_reducible refine Kd.C_drew ?_) | exact HR127.out)) hb)
           have n5_ := bs3 HB hb GE107 GE108 GE123; clear HO_3; clear BK107; clear BK108; clear BK123; clear HR127; clear HB; have HO_3 := n0_; have BK107 := n1_; have BK108 := n2_; have BK123 := n3_; have HR127 := n4_; have HB := n5_; clear n0_ n1_ n2_ n3_ n4_ n5_
           (try clear hb)
           (try clear hb2)
           (try clear hk)
           (try clear hi)
           refine hK.out _ _ ⟨(blk_cell BK123.out 0).trans rfl, (blk_cell BK123.out 1).trans rfl⟩ (fun hHeld => ?_)
           clear hK K
           refine norm_ (a' := ?_) ?_ ?_
           rotate_left
           ·show Act.put _ (some 96) _ = _
            simp only [Act.put, List.setIfInBounds_toArray, List.set_cons_zero, List.set_cons_succ, i64_w, i32_w]
            rfl
           refine pure_ (i := 4) (N := some 92) (v := ?_) (a' := ?_) #[true, true, true, true, true, false, false, false, false] rfl rfl (any_of HT_.out (by kernel_rfl)) (fun _ _ _ h => h) (Or.inl ⟨by rfl, ?_⟩) ?_ ?_
           rotate_left
           ·intro w'
            go_simp
            with_reducible rfl
           rotate_left
           ·simp only [Act.put, List.setIfInBounds_toArray, List.set_cons_zero, List.set_cons_succ, i64_w, i32_w]
            rfl
           refine pure_ (i := 5) (N := some 97) (v := ?_) (a' := ?_) #[true, true, true, true, true, true, false, false, false] rfl rfl (any_of HT_.out (by kernel_rfl)) (fun _ _ _ h => h) (Or.inl ⟨by rfl, ?_⟩) ?_ ?_
           rotate_left
           ·intro w'
            go_simp
            with_reducible rfl
           rotate_left
           ·simp only [Act.put, List.setIfInBounds_toArray, List.set_cons_zero, List.set_cons_succ, i64_w, i32_w]
            rfl
           refine pure_ (i := 6) (N := some 98) (v := ?_) (a' := ?_) #[true, true, true, true, true, true, true, false, false] rfl rfl (any_of HT_.out (by kernel_rfl)) (fun _ _ _ h => h) (Or.inl ⟨by rfl, ?_⟩) ?_ ?_
           rotate_left
           ·intro w'
            go_simp
            with_reducible rfl
           rotate_left
           ·simp only [Act.put, List.setIfInBounds_toArray, List.set_cons_zero, List.set_cons_succ, i64_w, i32_w]
            rfl
           refine pure_ (i := 7) (N := some 16) (v := ?_) (a' := ?_) #[true, true, true, true, true, true, true, true, false] rfl rfl (any_of HT_.out (by kernel_rfl)) (fun _ _ _ h => h) (Or.inl ⟨by rfl, ?_⟩) ?_ ?_
           rotate_left
           ·intro w'
            go_simp
            with_reducible rfl
           rotate_left
           ·simp only [Act.put, List.setIfInBounds_toArray, List.set_cons_zero, List.set_cons_succ, i64_w, i32_w]
            rfl
           refine pure_ (i := 8) (N := some 17) (v := ?_) (a' := ?_) #[true, true, true, true, true, true, true, true, true] rfl rfl (any_of HT_.out (by kernel_rfl)) (fun _ _ _ h => h) (Or.inl ⟨by rfl, ?_⟩) ?_ ?_
           rotate_left
           ·intro w'
            go_simp
            with_reducible rfl
           rotate_left
           ·simp only [Act.put, List.setIfInBounds_toArray, List.set_cons_zero, List.set_cons_succ, i64_w, i32_w]
            rfl
           refine done_ (done_of HT_.out (by kernel_rfl)) ?_
           go_upto_region 21 with (fail)
           go_cut [18] (fun v18 wc => ∃ (kq : Nat) (A127 : Option Addr) (x18_45 : Bool), v18 = .bool x18_45 ∧ Aside0 (laws_FnMore.j2 kq t102 t116 t118 t119 t128 x18_45 t105 t106 = some r) ∧ Aside0 (kq ≤ kj24) ∧ Aside0 (Kd.R Kd.bool 4 wc w.heap.size (fun _ => True) (.slice Ao30 t102.length co30) t102) ∧ Aside0 (wc.heap[gb107]? = some (.cells #[.int .i64 t105, .string t106] 26 (0, 0))) ∧ Aside0 (wc.heap[gb108]? = some (.cells #[.int .i64 t105, .string (strOfNums x6_1)] 26 (0, 0))) ∧ Aside0 (wc.heap[gb123]? = some (.cells #[.int .i64 t120, .string t121] 26 (0, 0))) ∧ Aside0 (Kd.C Kd.bool wc A127 y124.length y124) ∧ Aside0 (Below w.heap.size w wc))
           case first =>
            have H := HC46.out; clear HC46
            by_cases c60 : 0 < (t102.length : Int)
            ·rw [if_pos c60] at H
             have c60b0 : decide (0 < (t102.length : Int)) = true := decide_eq_true c60
             have c60b1 : decide (0 < t102.length) = true := decide_eq_true (by omega)
             clear c60
             (first | rw [c60b0] | (simp only [i64_w, i32_w]; rw [c60b0]) | skip)
             obtain ⟨bq61, hbq61⟩ : ∃ b_ : Bool, b_ = (rdOf false t102 0) := ⟨_, rfl⟩
             replace H : (if bq61 = true then (if t116 = 0 then (laws_FnMore.j2 kj24 t102 t116 t118 t119 t128 true t105 t106) else (laws_FnMore.j2 kj24 t102 t116 t118 t119 t128 false t105 t106)) else (laws_FnMore.j2 kj24 t102 t116 t118 t119 t128 (t116 == 1) t105 t106)) = some r := by rw [← hbq61] at H; exact H
             have Nbq61 := Aside0.mk hbq61; clear hbq61
             by_cases c62 : bq61 = true
             ·subst c62
              have H1 : (if t116 = 0 then (laws_FnMore.j2 kj24 t102 t116 t118 t119 t128 true t105 t106) else (laws_FnMore.j2 kj24 t102 t116 t118 t119 t128 false t105 t106)) = some r := by rw [if_pos rfl] at H; exact H
              clear H; have H := H1; clear H1
              by_cases c63 : t116 = 0
              ·rw [if_pos c63] at H
               have c63b0 : (t116 == 0) = true := beq_iff_eq.mpr c63; have c63b1 : (t116 != 0) = false := bne_eq_false_iff_eq.mpr c63; clear c63
               have H' := Aside0.mk H
               clear H
               have p130 : 0 ≤ (0 : Int) := (by omega)
               have q130 : 0 < (t102.length : Int) := of_decide_eq_true (by first | (with_reducible assumption) | assumption)
               obtain ⟨ad130, e130, hx130_0⟩ := Kd.at_bool (Kd.R_reads' HO_3.out).2.2 0 p130 q130
               (try rw [← Nbq61.out] at hx130_0)
               cases e130
               have qi130 : (0 < t102.length) = True := eq_true (by omega)
               (try rw [show ((0 : Int)).toNat = 0 from rfl] at hx130_0)
               (try rw [Addr.add_zero'] at hx130_0)
               replace p130 := eq_true p130
               replace q130 := eq_true q130
               go_wp2
               go_meet
               case rel => exact ⟨_, _, (true), (by first | rfl | (simp; done) | (simp [*]; done)), H', ⟨by have := HK1.out; have := HJ24.out; first | omega | exact Nat.le_refl _⟩, ⟨by (with_reducible repeat (first | apply Kd.R_alloc | apply Kd.R_drewN | apply Kd.R_drew)); exact HO_3.out⟩, ⟨by (with_reducible repeat (first | refine blk_drewN ?_ _ | refine blk_drew ?_ | refine blk_alloc ?_ _)); exact BK107.out⟩, ⟨by (with_reducible repeat (first | refine blk_drewN ?_ _ | refine blk_drew ?_ | refine blk_alloc ?_ _)); exact BK108.out⟩, ⟨by (with_reducible repeat (first | refine blk_drewN ?_ _ | refine blk_drew ?_ | refine blk_alloc ?_ _)); exact BK123.out⟩, ⟨by repeat (first | (with_reducible exact HR127.out) | (with_reducible refine Kd.C_alloc ?_ _) | (with_reducible refine Kd.C_drewN ?_ _) | (with_reducible refine Kd.C_drew ?_) | exact HR127.out)⟩, ⟨by repeat (first | (with_reducible first | exact HB.out | apply below_alloc | apply pw_below_drewN | apply below_drew1 | refine below_set ?_ GE107.out | refine below_set ?_ GE108.out | refine below_set ?_ GE123.out) | exact HB.out)⟩⟩
              ·rw [if_neg c63] at H
               have c63b0 : (t116 == 0) = false := beq_eq_false_iff_ne.mpr c63; have c63b1 : (t116 != 0) = true := bne_iff_ne.mpr c63
               have H' := Aside0.mk H
               clear H
               have p130 : 0 ≤ (0 : Int) := (by omega)
               have q130 : 0 < (t102.length : Int) := of_decide_eq_true (by first | (with_reducible assumption) | assumption)
               obtain ⟨ad130, e130, hx130_0⟩ := Kd.at_bool (Kd.R_reads' HO_3.out).2.2 0 p130 q130
               (try rw [← Nbq61.out] at hx130_0)
               cases e130
               have qi130 : (0 < t102.length) = True := eq_true (by omega)
               (try rw [show ((0 : Int)).toNat = 0 from rfl] at hx130_0)
               (try rw [Addr.add_zero'] at hx130_0)
               replace p130 := eq_true p130
               replace q130 := eq_true q130
               have p131 : 0 ≤ (0 : Int) := (by omega)
               have q131 : 0 < (t102.length : Int) := of_decide_eq_true (by first | (with_reducible assumption) | assumption)
               obtain ⟨ad131, e131, hx131_0⟩ := Kd.at_bool (Kd.R_reads' HO_3.out).2.2 0 p131 q131
               (try rw [← Nbq61.out] at hx131_0)
               obtain rfl : ad130 = ad131 := (by injection e131)
               have qi131 : (0 < t102.length) = True := eq_true (by omega)
               (try rw [show ((0 : Int)).toNat = 0 from rfl] at hx131_0)
               (try rw [Addr.add_zero'] at hx131_0)
               replace p131 := eq_true p131
               replace q131 := eq_true q131
               go_wp2
               go_meet
               case rel => exact ⟨_, _, (false), (by first | rfl | (simp; done) | (simp [*]; done)), H', ⟨by have := HK1.out; have := HJ24.out; first | omega | exact Nat.le_refl _⟩, ⟨by (with_reducible repeat (first | apply Kd.R_alloc | apply Kd.R_drewN | apply Kd.R_drew)); exact HO_3.out⟩, ⟨by (with_reducible repeat (first | refine blk_drewN ?_ _ | refine blk_drew ?_ | refine blk_alloc ?_ _)); exact BK107.out⟩, ⟨by (with_reducible repeat (first | refine blk_drewN ?_ _ | refine blk_drew ?_ | refine blk_alloc ?_ _)); exact BK108.out⟩, ⟨by (with_reducible repeat (first | refine blk_drewN ?_ _ | refine blk_drew ?_ | refine blk_alloc ?_ _)); exact BK123.out⟩, ⟨by repeat (first | (with_reducible exact HR127.out) | (with_reducible refine Kd.C_alloc ?_ _) | (with_reducible refine Kd.C_drewN ?_ _) | (with_reducible refine Kd.C_drew ?_) | exact HR127.out)⟩, ⟨by repeat (first | (with_reducible first | exact HB.out | apply below_alloc | apply pw_below_drewN | apply below_drew1 | refine below_set ?_ GE107.out | refine below_set ?_ GE108.out | refine below_set ?_ GE123.out) | exact HB.out)⟩⟩
             ·replace c62 := Bool.eq_false_iff.mpr c62
              subst c62
              have H1 : (laws_FnMore.j2 kj24 t102 t116 t118 t119 t128 (t116 == 1) t105 t106) = some r := by rw [if_neg (show ¬ (false = true) by decide)] at H; exact H
              clear H; have H := H1; clear H1
              have H' := Aside0.mk H
              clear H
              have p130 : 0 ≤ (0 : Int) := (by omega)
              have q130 : 0 < (t102.length : Int) := of_decide_eq_true (by first | (with_reducible assumption) | assumption)
              obtain ⟨ad130, e130, hx130_0⟩ := Kd.at_bool (Kd.R_reads' HO_3.out).2.2 0 p130 q130
              (try rw [← Nbq61.out] at hx130_0)
              cases e130
              have qi130 : (0 < t102.length) = True := eq_true (by omega)
              (try rw [show ((0 : Int)).toNat = 0 from rfl] at hx130_0)
              (try rw [Addr.add_zero'] at hx130_0)
              replace p130 := eq_true p130
              replace q130 := eq_true q130
              have p132 : 0 ≤ (0 : Int) := (by omega)
              have q132 : 0 < (t102.length : Int) := of_decide_eq_true (by first | (with_reducible assumption) | assumption)
              obtain ⟨ad132, e132, hx132_0⟩ := Kd.at_bool (Kd.R_reads' HO_3.out).2.2 0 p132 q132
              (try rw [← Nbq61.out] at hx132_0)
              obtain rfl : ad130 = ad132 := (by injection e132)
              have qi132 : (0 < t102.length) = True := eq_true (by omega)
              (try rw [show ((0 : Int)).toNat = 0 from rfl] at hx132_0)
              (try rw [Addr.add_zero'] at hx132_0)
              replace p132 := eq_true p132
              replace q132 := eq_true q132
              go_wp2
              go_meet
              case rel => exact ⟨_, _, ((t116 == 1)), (by first | rfl | (simp; done) | (simp [*]; done)), H', ⟨by have := HK1.out; have := HJ24.out; first | omega | exact Nat.le_refl _⟩, ⟨by (with_reducible repeat (first | apply Kd.R_alloc | apply Kd.R_drewN | apply Kd.R_drew)); exact HO_3.out⟩, ⟨by (with_reducible repeat (first | refine blk_drewN ?_ _ | refine blk_drew ?_ | refine blk_alloc ?_ _)); exact BK107.out⟩, ⟨by (with_reducible repeat (first | refine blk_drewN ?_ _ | refine blk_drew ?_ | refine blk_alloc ?_ _)); exact BK108.out⟩, ⟨by (with_reducible repeat (first | refine blk_drewN ?_ _ | refine blk_drew ?_ | refine blk_alloc ?_ _)); exact BK123.out⟩, ⟨by repeat (first | (with_reducible exact HR127.out) | (with_reducible refine Kd.C_alloc ?_ _) | (with_reducible refine Kd.C_drewN ?_ _) | (with_reducible refine Kd.C_drew ?_) | exact HR127.out)⟩, ⟨by repeat (first | (with_reducible first | exact HB.out | apply below_alloc | apply pw_below_drewN | apply below_drew1 | refine below_set ?_ GE107.out | refine below_set ?_ GE108.out | refine below_set ?_ GE123.out) | exact HB.out)⟩⟩
            ·rw [if_neg c60] at H
             exact absurd H (by simp)
           case rest =>
            clear HC46
            (try clear c1); (try clear p1); (try clear q1); (try clear hx1); (try clear qi1); (try clear hf1); (try clear c2); (try clear p2); (try clear hcv2); (try clear c3); (try clear c4); (try clear c5); (try clear q5); (try clear c6); (try clear p6); (try clear q6); (try clear c10); (try clear c11); (try clear c12); (try clear c13); (try clear p13); (try clear q13); (try clear hx13); (try clear qi13); (try clear c14); (try clear c14b0); (try clear c16); (try clear c16b0); (try clear c16b1); (try clear c17); (try clear c17b0); (try clear c18); (try clear p18); (try clear q18); (try clear hx18); (try clear hf18); (try clear c19); (try clear c20); (try clear hcv27); (try clear c28); (try clear c34); (try clear c35); (try clear c36); (try clear c38); (try clear c38b0); (try clear c38b1); (try clear c39); (try clear c44); (try clear c44b0); (try clear c44b1); (try clear c47); (try clear c53); (try clear c54); (try clear c58); (try clear q58); (try clear c60); (try clear c60b0); (try clear c60b1); (try clear q61); (try clear c62); (try clear c63); (try clear c63b0); (try clear c63b1); (try clear hcz11_0); (try clear hcz11_1); (try clear hcz12_0); (try clear hcz12_1); (try clear hcz29_0); (try clear hcz29_1); (try clear hcz32_0); (try clear hcz32_1); (try clear hcz40_0); (try clear hcz40_1); (try clear hcz42_0); (try clear hcz42_1); (try clear hcz48_0); (try clear hcz48_1); (try clear hcz50_0); (try clear hcz50_1); (try clear hcz55_0); (try clear hcz55_1); (try clear hcz8_0); (try clear hcz8_1); (try clear hfz11_0); (try clear hfz11_1); (try clear hfz12_0); (try clear hfz12_1); (try clear hfz29_0); (try clear hfz29_1); (try clear hfz32_0); (try clear hfz32_1); (try clear hfz40_0); (try clear hfz40_1); (try clear hfz42_0); (try clear hfz42_1); (try clear hfz48_0); (try clear hfz48_1); (try clear hfz50_0); (try clear hfz50_1); (try clear hfz55_0); (try clear hfz55_1); (try clear hfz8_0); (try clear hfz8_1); (try clear hx130_0); (try clear hx131_0); (try clear hx132_0); (try clear hx18_0); (try clear p1); (try clear p130); (try clear p131); (try clear p132); (try clear p18); (try clear p2); (try clear p6); (try clear q1); (try clear q130); (try clear q131); (try clear q132); (try clear q18); (try clear q58)
            obtain ⟨kq, A127, x18_45, rfl, HA, HJ45, HO_3, BK107, BK108, BK123, HR127, HB⟩ := hcut
            cases kq with
                        | zero => exact absurd HA.out (by simp [laws_FnMore.j2])
                        | succ kj45 =>
             have H := HA.out; clear HA
             simp only [laws_FnMore.j2] at H
             replace H := Option.bind_eq_some_iff.mp H
             obtain ⟨⟨t133, t134, t135⟩, A640, H⟩ := H
             replace H : (if 1 ≤ (t102.length : Int) then ((impl_Decide.f kj45 (t102.drop 1) t133 t134).bind fun bt141 => (if t119 = true then (if t128 = t116 then (if x18_45 = true then (if ((t118 == 0) == (bt141.1 == t116)) = true then ((impl_Owner.f kj45 t102 t116).bind fun t143 => (if (t143.length : Int) = (t102.length : Int) then ((impl_Owner.f kj45 t102 t116).bind fun t146 => (if 0 < (t146.length : Int) then (if 0 < (t102.length : Int) then (some ((rdOf false t146 0) == ((rdOf false t102 0) == (t116 == 0)))) else (none)) else (none))) else (some false))) else (some false)) else ((impl_Owner.f kj45 t102 t116).bind fun t151 => (if (t151.length : Int) = (t102.length : Int) then ((impl_Owner.f kj45 t102 t116).bind fun t154 => (if 0 < (t154.length : Int) then (if 0 < (t102.length : Int) then (some ((rdOf false t154 0) == ((rdOf false t102 0) == (t116 == 0)))) else (none)) else (none))) else (some false)))) else (some false)) else (some false))) else (none)) = some r := H
             have A64 := Aside0.mk A640; clear A640
             by_cases c65 : 1 ≤ (t102.length : Int)
             ·rw [if_pos c65] at H
              have c65b0 := eq_true c65; have c65b1 : decide (1 ≤ (t102.length : Int)) = true := decide_eq_true c65; clear c65
              obtain ⟨y137, hy137⟩ : ∃ y_ : List Bool, y_ = (t102.drop 1) := ⟨_, rfl⟩
              replace H : ((impl_Decide.f kj45 y137 t133 t134).bind fun bt141 => (if t119 = true then (if t128 = t116 then (if x18_45 = true then (if ((t118 == 0) == (bt141.1 == t116)) = true then ((impl_Owner.f kj45 t102 t116).bind fun t143 => (if (t143.length : Int) = (t102.length : Int) then ((impl_Owner.f kj45 t102 t116).bind fun t146 => (if 0 < (t146.length : Int) then (if 0 < (t102.length : Int) then (some ((rdOf false t146 0) == ((rdOf false t102 0) == (t116 == 0)))) else (none)) else (none))) else (some false))) else (some false)) else ((impl_Owner.f kj45 t102 t116).bind fun t151 => (if (t151.length : Int) = (t102.length : Int) then ((impl_Owner.f kj45 t102 t116).bind fun t154 => (if 0 < (t154.length : Int) then (if 0 < (t102.length : Int) then (some ((rdOf false t154 0) == ((rdOf false t102 0) == (t116 == 0)))) else (none)) else (none))) else (some false)))) else (some false)) else (some false))) = some r := by first | (rw [hy137]; with_reducible exact H) | (have H2_ := (Option.bind_some _ _).symm.trans H; rw [hy137]; with_reducible exact H2_) | (have H2_ := (Option.bind_some _ _).symm.trans H; with_reducible exact H2_) | with_reducible exact H | (rw [hy137]; exact H) | exact H
              have Ny137 := Aside0.mk hy137; clear hy137
              replace H := Option.bind_eq_some_iff.mp H
              obtain ⟨⟨t141, t142⟩, A660, H⟩ := H
              replace H : (if t119 = true then (if t128 = t116 then (if x18_45 = true then (if ((t118 == 0) == (t141 == t116)) = true then ((impl_Owner.f kj45 t102 t116).bind fun t143 => (if (t143.length : Int) = (t102.length : Int) then ((impl_Owner.f kj45 t102 t116).bind fun t146 => (if 0 < (t146.length : Int) then (if 0 < (t102.length : Int) then (some ((rdOf false t146 0) == ((rdOf false t102 0) == (t116 == 0)))) else (none)) else (none))) else (some false))) else (some false)) else ((impl_Owner.f kj45 t102 t116).bind fun t151 => (if (t151.length : Int) = (t102.length : Int) then ((impl_Owner.f kj45 t102 t116).bind fun t154 => (if 0 < (t154.length : Int) then (if 0 < (t102.length : Int) then (some ((rdOf false t154 0) == ((rdOf false t102 0) == (t116 == 0)))) else (none)) else (none))) else (some false)))) else (some false)) else (some false)) = some r := H
              have A66 := Aside0.mk A660; clear A660
              by_cases c67 : t119 = true
              ·subst c67
               have H1 : (if t128 = t116 then (if x18_45 = true then (if ((t118 == 0) == (t141 == t116)) = true then ((impl_Owner.f kj45 t102 t116).bind fun t143 => (if (t143.length : Int) = (t102.length : Int) then ((impl_Owner.f kj45 t102 t116).bind fun t146 => (if 0 < (t146.length : Int) then (if 0 < (t102.length : Int) then (some ((rdOf false t146 0) == ((rdOf false t102 0) == (t116 == 0)))) else (none)) else (none))) else (some false))) else (some false)) else ((impl_Owner.f kj45 t102 t116).bind fun t151 => (if (t151.length : Int) = (t102.length : Int) then ((impl_Owner.f kj45 t102 t116).bind fun t154 => (if 0 < (t154.length : Int) then (if 0 < (t102.length : Int) then (some ((rdOf false t154 0) == ((rdOf false t102 0) == (t116 == 0)))) else (none)) else (none))) else (some false)))) else (some false)) = some r := by rw [if_pos rfl] at H; exact H
               clear H; have H := H1; clear H1
               by_cases c68 : t128 = t116
               ·rw [if_pos c68] at H
                have c68b0 : (t128 == t116) = true := beq_iff_eq.mpr c68; have c68b1 : (t128 != t116) = false := bne_eq_false_iff_eq.mpr c68; clear c68
                by_cases c69 : x18_45 = true
                ·subst c69
                 have H1 : (if ((t118 == 0) == (t141 == t116)) = true then ((impl_Owner.f kj45 t102 t116).bind fun t143 => (if (t143.length : Int) = (t102.length : Int) then ((impl_Owner.f kj45 t102 t116).bind fun t146 => (if 0 < (t146.length : Int) then (if 0 < (t102.length : Int) then (some ((rdOf false t146 0) == ((rdOf false t102 0) == (t116 == 0)))) else (none)) else (none))) else (some false))) else (some false)) = some r := by rw [if_pos rfl] at H; exact H
                 clear H; have H := H1; clear H1
                 by_cases c70 : ((t118 == 0) == (t141 == t116)) = true
                 ·rw [if_pos c70] at H
                  have c70b0 : ((t118 == 0) == (t141 == t116)) = true := c70
                  (try (have c70b1 : decide ((t118 == 0) = (t141 == t116)) = true := by simpa using c70))
                  (try (have c70b2 : ((t118 == 0) == (t141 == t116)) = true := by simpa using c70))
                  clear c70
                  replace H := Option.bind_eq_some_iff.mp H
                  obtain ⟨t143, A710, H⟩ := H
                  replace H : (if (t143.length : Int) = (t102.length : Int) then ((impl_Owner.f kj45 t102 t116).bind fun t146 => (if 0 < (t146.length : Int) then (if 0 < (t102.length : Int) then (some ((rdOf false t146 0) == ((rdOf false t102 0) == (t116 == 0)))) else (none)) else (none))) else (some false)) = some r := H
                  have A71 := Aside0.mk A710; clear A710
                  by_cases c72 : (t143.length : Int) = (t102.length : Int)
                  ·rw [if_pos c72] at H
                   have c72b0 : ((t143.length : Int) == (t102.length : Int)) = true := beq_iff_eq.mpr c72; have c72b1 : ((t143.length : Int) != (t102.length : Int)) = false := bne_eq_false_iff_eq.mpr c72
                   have c72b2 : (t143.length == t102.length) = true := by first | simpa using c72 | (simp at c72 ⊢; omega)
                   clear c72
                   replace H := Option.bind_eq_some_iff.mp H
                   obtain ⟨t146, A730, H⟩ := H
                   replace H : (if 0 < (t146.length : Int) then (if 0 < (t102.length : Int) then (some ((rdOf false t146 0) == ((rdOf false t102 0) == (t116 == 0)))) else (none)) else (none)) = some r := H
                   have A73 := Aside0.mk A730; clear A730
                   by_cases c74 : 0 < (t146.length : Int)
                   ·rw [if_pos c74] at H
                    have c74b0 : decide (0 < (t146.length : Int)) = true := decide_eq_true c74
                    have c74b1 : decide (0 < t146.length) = true := decide_eq_true (by omega)
                    clear c74
                    by_cases c75 : 0 < (t102.length : Int)
                    ·rw [if_pos c75] at H
                     have c75b0 : decide (0 < (t102.length : Int)) = true := decide_eq_true c75
                     have c75b1 : decide (0 < t102.length) = true := decide_eq_true (by omega)
                     clear c75
                     obtain rfl := Option.some.inj H
                     have hnb76 := NB107_108.out; have hnc76 := NB108_107.out; have hnb77 := NB107_123.out; have hnc77 := NB123_107.out; have hcz78_0 : wc.cell? ⟨gb107, 0, none⟩ = some (.int .i64 t105) := (blk_cell BK107.out 0).trans rfl; have hcz78_1 : wc.cell? ⟨gb107, 1, none⟩ = some (.string t106) := (blk_cell BK107.out 1).trans rfl; have hfz78_0 := blk_frozen BK107.out 0; have hfz78_1 := blk_frozen BK107.out 1
                     try go_wp2_with (first | ((with_reducible refine gate_callee (f := 20) rfl ?_); refine goesL_ (some 118) rfl rfl Try.func20 (by kernel_rfl) rfl #[.agg #[.int .i64 t105, .string t106], .int .i64 0] rfl (by (try simp only [List.map_toArray, List.map_cons, List.map_nil]); first | done | rfl | (simp only [List.length_drop, List.length_take]; rfl)) ?_; (with_reducible refine (impl_Half.calls kj45 t105 t106 0 t133 t134 t135 _ A64.out).mono ?_); rintro e w79 ⟨rfl, hb⟩; refine ⟨_, rfl, ?_⟩; have n0_ := rb HO_3 hb; have n1_ := bb BK107 hb; have n2_ := bb BK108 hb; have n3_ := bb BK123 hb; have n4_ := Aside0.mk (Kd.C_below (by repeat (first | (with_reducible exact HR127.out) | (with_reducible refine Kd.C_alloc ?_ _) | (with_reducible refine Kd.C_drewN ?_ _) | (with_reducible refine Kd.C_drew ?_) | exact HR127.out)) hb); have n5_ := bs3 HB hb GE107 GE108 GE123; clear HO_3; clear BK107; clear BK108; clear BK123; clear HR127; clear HB; have HO_3 := n0_; have BK107 := n1_; have BK108 := n2_; have BK123 := n3_; have HR127 := n4_; have HB := n5_; clear n0_ n1_ n2_ n3_ n4_ n5_; (try clear hb); (try clear hb2); (try clear hk); (try clear hi)) | ((with_reducible refine gate_dst (N := 19) rfl ?_); (try (refine gate_guard (by rfl) ?_; dsimp only)); refine box_event ?hg (N := 19) ?hd (cs := #[.int .i64 0, .string (⟨#[]⟩ : ByteArray)]) (t := 26) ?hr ?_; (case hd => rfl); (case hg => rfl); (case hr => first | (go_simp; done) | (go_simp; rfl)); intro gb136 hg w80 hbox hb; have n0_ := rb HO_3 hb; have n1_ := bb BK107 hb; have n2_ := bb BK108 hb; have n3_ := bb BK123 hb; have n4_ := Aside0.mk (Kd.C_below (by repeat (first | (with_reducible exact HR127.out) | (with_reducible refine Kd.C_alloc ?_ _) | (with_reducible refine Kd.C_drewN ?_ _) | (with_reducible refine Kd.C_drew ?_) | exact HR127.out)) hb); have n5_ := bs3 HB hb GE107 GE108 GE123; have n6_ := Aside0.mk (hbox); have n7_ := bz3 hg HB GE107 GE108 GE123; have n8_ := bz3 hg HB GE107 GE108 GE123; have n9_ := nl hg BK107; have n10_ := ng hg BK107; have n11_ := nl hg BK108; have n12_ := ng hg BK108; have n13_ := nl hg BK123; have n14_ := ng hg BK123; clear HO_3; clear BK107; clear BK108; clear BK123; clear HR127; clear HB; have HO_3 := n0_; have BK107 := n1_; have BK108 := n2_; have BK123 := n3_; have HR127 := n4_; have HB := n5_; have BK136 := n6_; have GW136 := n7_; have GE136 := n8_; have NB107_136 := n9_; have NB136_107 := n10_; have NB108_136 := n11_; have NB136_108 := n12_; have NB123_136 := n13_; have NB136_123 := n14_; clear n0_ n1_ n2_ n3_ n4_ n5_ n6_ n7_ n8_ n9_ n10_ n11_ n12_ n13_ n14_; clear hb hbox hg; have hnb81 := NB136_107.out; have hnc81 := NB107_136.out; have hnb82 := NB136_108.out; have hnc82 := NB108_136.out; have hnb83 := NB136_123.out; have hnc83 := NB123_136.out; have hcz84_0 : w80.cell? ⟨gb136, 0, none⟩ = some (.int .i64 0) := (blk_cell BK136.out 0).trans rfl; have hcz84_1 : w80.cell? ⟨gb136, 1, none⟩ = some (.string (⟨#[]⟩ : ByteArray)) := (blk_cell BK136.out 1).trans rfl; have hfz84_0 := blk_frozen BK136.out 0; have hfz84_1 := blk_frozen BK136.out 1))
                     have n0_ : Aside0 (Kd.R Kd.bool 4 ((w80.setCell ⟨gb136, 0, none⟩ (.int .i64 t133)).setCell ⟨gb136, 1, none⟩ (.string t134)) w.heap.size (fun _ => True) (.slice Ao30 t102.length co30) t102) := ⟨by (with_reducible repeat (first | apply Kd.R_alloc | apply Kd.R_drewN | apply Kd.R_drew)); exact Kd.R_mono (Kd.R_far (p := ⟨gb136, 1, none⟩) (Kd.R_far (p := ⟨gb136, 0, none⟩) (Kd.R_types HO_3.out BK136.out (by decide)) (fun _ hk => hk.2) (.int .i64 t133)) (fun _ hk => hk.2) (.string t134)) (fun _ hk => trivial)⟩
                     have n1_ : Aside0 (((w80.setCell ⟨gb136, 0, none⟩ (.int .i64 t133)).setCell ⟨gb136, 1, none⟩ (.string t134)).heap[gb107]? = some (.cells #[.int .i64 t105, .string t106] 26 (0, 0))) := ⟨by (with_reducible repeat (first | refine blk_drewN ?_ _ | refine blk_drew ?_ | refine blk_alloc ?_ _)); refine blk_far ?_ NB107_136.out _; (with_reducible repeat (first | refine blk_drewN ?_ _ | refine blk_drew ?_ | refine blk_alloc ?_ _)); refine blk_far ?_ NB107_136.out _; (with_reducible repeat (first | refine blk_drewN ?_ _ | refine blk_drew ?_ | refine blk_alloc ?_ _)); exact BK107.out⟩
                     have n2_ : Aside0 (((w80.setCell ⟨gb136, 0, none⟩ (.int .i64 t133)).setCell ⟨gb136, 1, none⟩ (.string t134)).heap[gb108]? = some (.cells #[.int .i64 t105, .string (strOfNums x6_1)] 26 (0, 0))) := ⟨by (with_reducible repeat (first | refine blk_drewN ?_ _ | refine blk_drew ?_ | refine blk_alloc ?_ _)); refine blk_far ?_ NB108_136.out _; (with_reducible repeat (first | refine blk_drewN ?_ _ | refine blk_drew ?_ | refine blk_alloc ?_ _)); refine blk_far ?_ NB108_136.out _; (with_reducible repeat (first | refine blk_drewN ?_ _ | refine blk_drew ?_ | refine blk_alloc ?_ _)); exact BK108.out⟩
                     have n3_ : Aside0 (((w80.setCell ⟨gb136, 0, none⟩ (.int .i64 t133)).setCell ⟨gb136, 1, none⟩ (.string t134)).heap[gb123]? = some (.cells #[.int .i64 t120, .string t121] 26 (0, 0))) := ⟨by (with_reducible repeat (first | refine blk_drewN ?_ _ | refine blk_drew ?_ | refine blk_alloc ?_ _)); refine blk_far ?_ NB123_136.out _; (with_reducible repeat (first | refine blk_drewN ?_ _ | refine blk_drew ?_ | refine blk_alloc ?_ _)); refine blk_far ?_ NB123_136.out _; (with_reducible repeat (first | refine blk_drewN ?_ _ | refine blk_drew ?_ | refine blk_alloc ?_ _)); exact BK123.out⟩
                     have n4_ : Aside0 (((w80.setCell ⟨gb136, 0, none⟩ (.int .i64 t133)).setCell ⟨gb136, 1, none⟩ (.string t134)).heap[gb136]? = some (.cells #[.int .i64 t133, .string t134] 26 (0, 0))) := ⟨by (with_reducible repeat (first | refine blk_drewN ?_ _ | refine blk_drew ?_ | refine blk_alloc ?_ _)); refine blk_put (cs := #[.int .i64 t133, .string (⟨#[]⟩ : ByteArray)]) ?_ 1 _ rfl; (with_reducible repeat (first | refine blk_drewN ?_ _ | refine blk_drew ?_ | refine blk_alloc ?_ _)); refine blk_put (cs := #[.int .i64 0, .string (⟨#[]⟩ : ByteArray)]) ?_ 0 _ rfl; (with_reducible repeat (first | refine blk_drewN ?_ _ | refine blk_drew ?_ | refine blk_alloc ?_ _)); exact BK136.out⟩
                     have n5_ : Aside0 (Below w.heap.size w ((w80.setCell ⟨gb136, 0, none⟩ (.int .i64 t133)).setCell ⟨gb136, 1, none⟩ (.string t134))) := ⟨by repeat (first | (with_reducible first | exact HB.out | apply below_alloc | apply pw_below_drewN | apply below_drew1 | refine below_set ?_ GE107.out | refine below_set ?_ GE108.out | refine below_set ?_ GE123.out | refine below_set ?_ GE136.out) | exact HB.out)⟩
                     (try clear HO_3)
                     (try clear BK107)
                     (try clear BK108)
                     (try clear BK123)
                     (try clear BK136)
                     (try clear HB)
                     generalize ((w80.setCell ⟨gb136, 0, none⟩ (.int .i64 t133)).setCell ⟨gb136, 1, none⟩ (.string t134)) = w85 at n0_ n1_ n2_ n3_ n4_ n5_ ⊢
                     have HO_3 := n0_; have BK107 := n1_; have BK108 := n2_; have BK123 := n3_; have BK136 := n4_; have HB := n5_; clear n0_ n1_ n2_ n3_ n4_ n5_; have n0_ := Aside0.mk (Kd.R_drew HO_3.out); have n1_ := Aside0.mk (blk_drew BK107.out); have n2_ := Aside0.mk (blk_drew BK108.out); have n3_ := Aside0.mk (blk_drew BK123.out); have n4_ := Aside0.mk (blk_drew BK136.out); have n5_ := Aside0.mk (below_drew1 HB.out); clear HO_3; clear BK107; clear BK108; clear BK123; clear BK136; clear HB; have HO_3 := n0_; have BK107 := n1_; have BK108 := n2_; have BK123 := n3_; have BK136 := n4_; have HB := n5_; clear n0_ n1_ n2_ n3_ n4_ n5_
                     have q87 : (1 : Int) ≤ ((t102.length : Int) : Int) := of_decide_eq_true (by first | (with_reducible assumption) | assumption)
                     obtain ⟨i087, hi087, _, hsz87, _⟩ := info_parts info4
                     have hroom87 : t102.length ≤ co30 := (Kd.R_reads' HO_3.out).2.1; have hC87 : Kd.C Kd.bool _ Ao30 t102.length t102 := (Kd.R_reads' HO_3.out).2.2
                     clear hcut58; have hcut87 := cut_from (P := Try.prog) 24 4 .i64 Try.underlying24 hi087 1 hsz87 Ao30 t102.length co30 1 (by omega) q87
                     have hr87 := Kd.C_drop (m := (1 : Int).toNat) (c := co30) hC87 (by omega) hroom87
                     obtain ⟨A87, hA87⟩ : ∃ A1, A1 = (if co30 = (1 : Int).toNat then Ao30 else (Ao30 : Option Addr).map (·.add ((1 : Int).toNat * 1))) := ⟨_, rfl⟩
                     obtain ⟨c87, hc87⟩ : ∃ c1, c1 = co30 - (1 : Int).toNat := ⟨_, rfl⟩
                     have hy87 : y137.length = t102.length - (1 : Int).toNat := (by rw [Ny137.out, List.length_drop] <;> omega)
                     rw [show (t102).drop (1 : Int).toNat = y137 from Ny137.out.symm] at hr87
                     replace hr87 : Kd.C Kd.bool _ A87 y137.length y137 := (by rw [hA87]; exact hr87)
                     rw [← hy87, ← hA87, ← hc87] at hcut87
                     have HR140 := Aside0.mk hr87
                     have HC140 := Aside0.mk (show y137.length ≤ c87 from by rw [hy87, hc87]; exact Nat.sub_le_sub_right hroom87 _)
                     clear hr87 hC87 hroom87 hi087 hsz87 hc87; have KY87 := Aside0.mk hy87; have KA87 := Aside0.mk hA87; clear hy87 hA87
                     have KL87 := Aside0.mk (show 1 ≤ t102.length from by omega)
                     replace q87 := eq_true q87
                     refine start_ (n := 9) (S := fun w' => w'.cell? ⟨gb136, 0, none⟩ = some (.int .i64 t133) ∧ w'.cell? ⟨gb136, 1, none⟩ = some (.string t134)) (ds := []) #[false, false, false, false, false, false, false, false, false] (by kernel_rfl) rfl rfl ⟨(blk_cell BK136.out 0).trans rfl, (blk_cell BK136.out 1).trans rfl⟩ (fun hHeld => ?_); refine with_tabW laws_FnMore.tab23 laws_FnMore.bits23 (fun HT_ HW_ => ?_)
                     generalize w85.drew = w86 at HO_3 BK107 BK108 BK123 BK136 HB HR140 hHeld ⊢
                     refine pure_ (i := 0) (N := some 122) (v := ?_) (a' := ?_) #[true, false, false, false, false, false, false, false, false] rfl rfl (any_of HT_.out (by kernel_rfl)) (fun _ _ _ h => h) (Or.inl ⟨by rfl, ?_⟩) ?_ ?_
                     rotate_left
                     ·intro w'
                      go_simp
                      with_reducible rfl
                     rotate_left
                     ·simp only [Act.put, List.setIfInBounds_toArray, List.set_cons_zero, List.set_cons_succ, i64_w, i32_w]
                      rfl
                     refine pure_ (i := 1) (N := some 123) (v := ?_) (a' := ?_) #[true, true, false, false, false, false, false, false, false] rfl rfl (any_of HT_.out (by kernel_rfl)) (fun _ _ _ h => h) (Or.inl ⟨by rfl, ?_⟩) ?_ ?_
                     rotate_left
                     ·intro w'
                      go_simp
                      with_reducible rfl
                     rotate_left
                     ·simp only [Act.put, List.setIfInBounds_toArray, List.set_cons_zero, List.set_cons_succ, i64_w, i32_w]
                      rfl
                     refine take_ (i := 2) (N := some 124) (v := ?_) (a' := ?_) #[true, true, true, false, false, false, false, false, false] rfl rfl (take_ofW HT_.out HW_.out (by kernel_rfl)) (fun _ _ _ h => h) (Or.inl ⟨by rfl, ?_⟩) hHeld ?_ ?_
                     rotate_left
                     ·rintro w' ⟨s0, s1⟩
                      go_simp
                      with_reducible rfl
                     rotate_left
                     ·simp only [Act.put, List.setIfInBounds_toArray, List.set_cons_zero, List.set_cons_succ, i64_w, i32_w]
                      rfl
                     refine one_ (i := 3) (N := some 125) #[true, true, true, true, false, false, false, false, false] rfl rfl (one_of HT_.out (by kernel_rfl)) (by decide) (fun K hK => ?_)
                     refine goes_ Try.func13 (by kernel_rfl) rfl #[.slice A87 y137.length c87, .agg #[.int .i64 t133, .string t134]] (by rfl) rfl rfl (by (try simp only [List.map_toArray, List.map_cons, List.map_nil]); first | done | rfl | (simp only [List.length_drop, List.length_take]; rfl)) ?_
                     with_reducible refine (impl_Decide.calls kj45 _ _ y137 t133 t134 t141 t142 _ ?side1 ?side2 A66.out).mono ?_
                     (case side1 => repeat (first | exact (by repeat (first | (with_reducible exact HR140.out) | (with_reducible refine Kd.C_alloc ?_ _) | (with_reducible refine Kd.C_drewN ?_ _) | (with_reducible refine Kd.C_drew ?_) | exact HR140.out)) | (with_reducible refine Kd.C_alloc ?_ _) | (with_reducible refine Kd.C_drewN ?_ _) | (with_reducible refine Kd.C_drew ?_)))
                     (case side2 => exact HC140.out)
                     rintro e w88 ⟨rfl, hb⟩
                     refine ⟨_, rfl, ?_⟩
                     have n0_ := rb HO_3 hb; have n1_ := bb BK107 hb; have n2_ := bb BK108 hb; have n3_ := bb BK123 hb; have n4_ := bb BK136 hb
                     have n5_ := Aside0.mk (Kd.C_below (by repeat (first | (with_reducible exact HR140.out) | (with_reducible refine Kd.C_alloc ?_ _) | (with_reducible refine Kd.C_drewN ?_ _) | (with_reducible refine Kd.C_drew ?_) | exact HR140.out)) hb)
                     have n6_ := bs4 HB hb GE107 GE108 GE123 GE136; clear HO_3; clear BK107; clear BK108; clear BK123; clear BK136; clear HR140; clear HB; have HO_3 := n0_; have BK107 := n1_; have BK108 := n2_; have BK123 := n3_; have BK136 := n4_; have HR140 := n5_; have HB := n6_; clear n0_ n1_ n2_ n3_ n4_ n5_ n6_
                     (try clear hb)
                     (try clear hb2)
                     (try clear hk)
                     (try clear hi)
                     refine hK.out _ _ ⟨(blk_cell BK136.out 0).trans rfl, (blk_cell BK136.out 1).trans rfl⟩ (fun hHeld => ?_)
                     clear hK K
                     refine norm_ (a' := ?_) ?_ ?_
                     rotate_left
                     ·show Act.put _ (some 125) _ = _
                      simp only [Act.put, List.setIfInBounds_toArray, List.set_cons_zero, List.set_cons_succ, i64_w, i32_w]
                      rfl
                     refine pure_ (i := 4) (N := some 121) (v := ?_) (a' := ?_) #[true, true, true, true, true, false, false, false, false] rfl rfl (any_of HT_.out (by kernel_rfl)) (fun _ _ _ h => h) (Or.inl ⟨by rfl, ?_⟩) ?_ ?_
                     rotate_left
                     ·intro w'
                      go_simp
                      with_reducible rfl
                     rotate_left
                     ·simp only [Act.put, List.setIfInBounds_toArray, List.set_cons_zero, List.set_cons_succ, i64_w, i32_w]
                      rfl
                     refine pure_ (i := 5) (N := some 126) (v := ?_) (a' := ?_) #[true, true, true, true, true, true, false, false, false] rfl rfl (any_of HT_.out (by kernel_rfl)) (fun _ _ _ h => h) (Or.inl ⟨by rfl, ?_⟩) ?_ ?_
                     rotate_left
                     ·intro w'
                      go_simp
                      with_reducible rfl
                     rotate_left
                     ·simp only [Act.put, List.setIfInBounds_toArray, List.set_cons_zero, List.set_cons_succ, i64_w, i32_w]
                      rfl
                     refine pure_ (i := 6) (N := some 127) (v := ?_) (a' := ?_) #[true, true, true, true, true, true, true, false, false] rfl rfl (any_of HT_.out (by kernel_rfl)) (fun _ _ _ h => h) (Or.inl ⟨by rfl, ?_⟩) ?_ ?_
                     rotate_left
                     ·intro w'
                      go_simp
                      with_reducible rfl
                     rotate_left
                     ·simp only [Act.put, List.setIfInBounds_toArray, List.set_cons_zero, List.set_cons_succ, i64_w, i32_w]
                      rfl
                     refine pure_ (i := 7) (N := some 21) (v := ?_) (a' := ?_) #[true, true, true, true, true, true, true, true, false] rfl rfl (any_of HT_.out (by kernel_rfl)) (fun _ _ _ h => h) (Or.inl ⟨by rfl, ?_⟩) ?_ ?_
                     rotate_left
                     ·intro w'
                      go_simp
                      with_reducible rfl
                     rotate_left
                     ·simp only [Act.put, List.setIfInBounds_toArray, List.set_cons_zero, List.set_cons_succ, i64_w, i32_w]
                      rfl
                     refine pure_ (i := 8) (N := some 22) (v := ?_) (a' := ?_) #[true, true, true, true, true, true, true, true, true] rfl rfl (any_of HT_.out (by kernel_rfl)) (fun _ _ _ h => h) (Or.inl ⟨by rfl, ?_⟩) ?_ ?_
                     rotate_left
                     ·intro w'
                      go_simp
                      with_reducible rfl
                     rotate_left
                     ·simp only [Act.put, List.setIfInBounds_toArray, List.set_cons_zero, List.set_cons_succ, i64_w, i32_w]
                      rfl
                     refine done_ (done_of HT_.out (by kernel_rfl)) ?_
                     try go_wp2
                     have n0_ := Aside0.mk (Kd.R_drew HO_3.out); have n1_ := Aside0.mk (blk_drew BK107.out); have n2_ := Aside0.mk (blk_drew BK108.out); have n3_ := Aside0.mk (blk_drew BK123.out); have n4_ := Aside0.mk (blk_drew BK136.out); have n5_ := Aside0.mk (Kd.C_drew HR140.out); have n6_ := Aside0.mk (below_drew1 HB.out); clear HO_3; clear BK107; clear BK108; clear BK123; clear BK136; clear HR140; clear HB; have HO_3 := n0_; have BK107 := n1_; have BK108 := n2_; have BK123 := n3_; have BK136 := n4_; have HR140 := n5_; have HB := n6_; clear n0_ n1_ n2_ n3_ n4_ n5_ n6_
                     have p150 : 0 ≤ (0 : Int) := (by omega)
                     have q150 : 0 < (t102.length : Int) := of_decide_eq_true (by first | (with_reducible assumption) | assumption)
                     obtain ⟨ad150, e150, hx150_0⟩ := Kd.at_bool (Kd.R_reads' HO_3.out).2.2 0 p150 q150
                     cases e150
                     have qi150 : (0 < t102.length) = True := eq_true (by omega)
                     (try rw [show ((0 : Int)).toNat = 0 from rfl] at hx150_0)
                     (try rw [Addr.add_zero'] at hx150_0)
                     replace p150 := eq_true p150
                     replace q150 := eq_true q150
                     refine start_ (n := 42) (S := fun w' => w'.cell? ad150 = some (.bool (rdOf false t102 0))) (ds := []) #[false, false, false, false, false, false, false, false, false, false, false, false, false, false, false, false, false, false, false, false, false, false, false, false, false, false, false, false, false, false, false, false, false, false, false, false, false, false, false, false, false, false] (by kernel_rfl) rfl rfl hx150_0 (fun hHeld => ?_); refine with_tabW laws_FnMore.tab24 laws_FnMore.bits24 (fun HT_ HW_ => ?_)
                     generalize w88.drew = w89 at HO_3 BK107 BK108 BK123 BK136 HR140 HB hx150_0 hHeld ⊢
                     refine pure_ (i := 0) (N := some 128) (v := ?_) (a' := ?_) #[true, false, false, false, false, false, false, false, false, false, false, false, false, false, false, false, false, false, false, false, false, false, false, false, false, false, false, false, false, false, false, false, false, false, false, false, false, false, false, false, false, false] rfl rfl (any_of HT_.out (by kernel_rfl)) (fun _ _ _ h => h) (Or.inl ⟨by rfl, ?_⟩) ?_ ?_
                     rotate_left
                     ·intro w'
                      go_simp
                      with_reducible rfl
                     rotate_left
                     ·simp only [Act.put, List.setIfInBounds_toArray, List.set_cons_zero, List.set_cons_succ, i64_w, i32_w]
                      rfl
                     refine pure_ (i := 1) (N := some 129) (v := ?_) (a' := ?_) #[true, true, false, false, false, false, false, false, false, false, false, false, false, false, false, false, false, false, false, false, false, false, false, false, false, false, false, false, false, false, false, false, false, false, false, false, false, false, false, false, false, false] rfl rfl (any_of HT_.out (by kernel_rfl)) (fun _ _ _ h => h) (Or.inl ⟨by rfl, ?_⟩) ?_ ?_
                     rotate_left
                     ·intro w'
                      go_simp
                      with_reducible rfl
                     rotate_left
                     ·simp only [Act.put, List.setIfInBounds_toArray, List.set_cons_zero, List.set_cons_succ, i64_w, i32_w]
                      rfl
                     refine pure_ (i := 2) (N := some 130) (v := ?_) (a' := ?_) #[true, true, true, false, false, false, false, false, false, false, false, false, false, false, false, false, false, false, false, false, false, false, false, false, false, false, false, false, false, false, false, false, false, false, false, false, false, false, false, false, false, false] rfl rfl (any_of HT_.out (by kernel_rfl)) (fun _ _ _ h => h) (Or.inl ⟨by rfl, ?_⟩) ?_ ?_
                     rotate_left
                     ·intro w'
                      go_simp
                      with_reducible rfl
                     rotate_left
                     ·simp only [Act.put, List.setIfInBounds_toArray, List.set_cons_zero, List.set_cons_succ, i64_w, i32_w]
                      rfl
                     refine pure_ (i := 3) (N := some 131) (v := ?_) (a' := ?_) #[true, true, true, true, false, false, false, false, false, false, false, false, false, false, false, false, false, false, false, false, false, false, false, false, false, false, false, false, false, false, false, false, false, false, false, false, false, false, false, false, false, false] rfl rfl (any_of HT_.out (by kernel_rfl)) (fun _ _ _ h => h) (Or.inl ⟨by rfl, ?_⟩) ?_ ?_
                     rotate_left
                     ·intro w'
                      go_simp
                      with_reducible rfl
                     rotate_left
                     ·simp only [Act.put, List.setIfInBounds_toArray, List.set_cons_zero, List.set_cons_succ, i64_w, i32_w]
                      rfl
                     refine pure_ (i := 4) (N := some 132) (v := ?_) (a' := ?_) #[true, true, true, true, true, false, false, false, false, false, false, false, false, false, false, false, false, false, false, false, false, false, false, false, false, false, false, false, false, false, false, false, false, false, false, false, false, false, false, false, false, false] rfl rfl (any_of HT_.out (by kernel_rfl)) (fun _ _ _ h => h) (Or.inl ⟨by rfl, ?_⟩) ?_ ?_
                     rotate_left
                     ·intro w'
                      go_simp
                      with_reducible rfl
                     rotate_left
                     ·simp only [Act.put, List.setIfInBounds_toArray, List.set_cons_zero, List.set_cons_succ, i64_w, i32_w]
                      rfl
                     refine pure_ (i := 5) (N := some 133) (v := ?_) (a' := ?_) #[true, true, true, true, true, true, false, false, false, false, false, false, false, false, false, false, false, false, false, false, false, false, false, false, false, false, false, false, false, false, false, false, false, false, false, false, false, false, false, false, false, false] rfl rfl (any_of HT_.out (by kernel_rfl)) (fun _ _ _ h => h) (Or.inl ⟨by rfl, ?_⟩) ?_ ?_
                     rotate_left
                     ·intro w'
                      go_simp
                      with_reducible rfl
                     rotate_left
                     ·simp only [Act.put, List.setIfInBounds_toArray, List.set_cons_zero, List.set_cons_succ, i64_w, i32_w]
                      rfl
                     refine pure_ (i := 6) (N := some 134) (v := ?_) (a' := ?_) #[true, true, true, true, true, true, true, false, false, false, false, false, false, false, false, false, false, false, false, false, false, false, false, false, false, false, false, false, false, false, false, false, false, false, false, false, false, false, false, false, false, false] rfl rfl (any_of HT_.out (by kernel_rfl)) (fun _ _ _ h => h) (Or.inl ⟨by rfl, ?_⟩) ?_ ?_
                     rotate_left
                     ·intro w'
                      go_simp
                      with_reducible rfl
                     rotate_left
                     ·simp only [Act.put, List.setIfInBounds_toArray, List.set_cons_zero, List.set_cons_succ, i64_w, i32_w]
                      rfl
                     refine pure_ (i := 7) (N := some 135) (v := ?_) (a' := ?_) #[true, true, true, true, true, true, true, true, false, false, false, false, false, false, false, false, false, false, false, false, false, false, false, false, false, false, false, false, false, false, false, false, false, false, false, false, false, false, false, false, false, false] rfl rfl (any_of HT_.out (by kernel_rfl)) (fun _ _ _ h => h) (Or.inl ⟨by rfl, ?_⟩) ?_ ?_
                     rotate_left
                     ·intro w'
                      go_simp
                      with_reducible rfl
                     rotate_left
                     ·simp only [Act.put, List.setIfInBounds_toArray, List.set_cons_zero, List.set_cons_succ, i64_w, i32_w]
                      rfl
                     refine pure_ (i := 8) (N := some 136) (v := ?_) (a' := ?_) #[true, true, true, true, true, true, true, true, true, false, false, false, false, false, false, false, false, false, false, false, false, false, false, false, false, false, false, false, false, false, false, false, false, false, false, false, false, false, false, false, false, false] rfl rfl (any_of HT_.out (by kernel_rfl)) (fun _ _ _ h => h) (Or.inl ⟨by rfl, ?_⟩) ?_ ?_
                     rotate_left
                     ·intro w'
                      go_simp
                      with_reducible rfl
                     rotate_left
                     ·simp only [Act.put, List.setIfInBounds_toArray, List.set_cons_zero, List.set_cons_succ, i64_w, i32_w]
                      rfl
                     refine pure_ (i := 9) (N := some 137) (v := ?_) (a' := ?_) #[true, true, true, true, true, true, true, true, true, true, false, false, false, false, false, false, false, false, false, false, false, false, false, false, false, false, false, false, false, false, false, false, false, false, false, false, false, false, false, false, false, false] rfl rfl (any_of HT_.out (by kernel_rfl)) (fun _ _ _ h => h) (Or.inl ⟨by rfl, ?_⟩) ?_ ?_
                     rotate_left
                     ·intro w'
                      go_simp
                      with_reducible rfl
                     rotate_left
                     ·simp only [Act.put, List.setIfInBounds_toArray, List.set_cons_zero, List.set_cons_succ, i64_w, i32_w]
                      rfl
                     refine pure_ (i := 10) (N := some 138) (v := ?_) (a' := ?_) #[true, true, true, true, true, true, true, true, true, true, true, false, false, false, false, false, false, false, false, false, false, false, false, false, false, false, false, false, false, false, false, false, false, false, false, false, false, false, false, false, false, false] rfl rfl (any_of HT_.out (by kernel_rfl)) (fun _ _ _ h => h) (Or.inl ⟨by rfl, ?_⟩) ?_ ?_
                     rotate_left
                     ·intro w'
                      go_simp
                      with_reducible rfl
                     rotate_left
                     ·simp only [Act.put, List.setIfInBounds_toArray, List.set_cons_zero, List.set_cons_succ, i64_w, i32_w]
                      rfl
                     refine pure_ (i := 11) (N := some 139) (v := ?_) (a' := ?_) #[true, true, true, true, true, true, true, true, true, true, true, true, false, false, false, false, false, false, false, false, false, false, false, false, false, false, false, false, false, false, false, false, false, false, false, false, false, false, false, false, false, false] rfl rfl (any_of HT_.out (by kernel_rfl)) (fun _ _ _ h => h) (Or.inl ⟨by rfl, ?_⟩) ?_ ?_
                     rotate_left
                     ·intro w'
                      go_simp
                      with_reducible rfl
                     rotate_left
                     ·simp only [Act.put, List.setIfInBounds_toArray, List.set_cons_zero, List.set_cons_succ, i64_w, i32_w]
                      rfl
                     refine pure_ (i := 12) (N := some 140) (v := ?_) (a' := ?_) #[true, true, true, true, true, true, true, true, true, true, true, true, true, false, false, false, false, false, false, false, false, false, false, false, false, false, false, false, false, false, false, false, false, false, false, false, false, false, false, false, false, false] rfl rfl (any_of HT_.out (by kernel_rfl)) (fun _ _ _ h => h) (Or.inl ⟨by rfl, ?_⟩) ?_ ?_
                     rotate_left
                     ·intro w'
                      go_simp
                      with_reducible rfl
                     rotate_left
                     ·simp only [Act.put, List.setIfInBounds_toArray, List.set_cons_zero, List.set_cons_succ, i64_w, i32_w]
                      rfl
                     refine pure_ (i := 13) (N := some 141) (v := ?_) (a' := ?_) #[true, true, true, true, true, true, true, true, true, true, true, true, true, true, false, false, false, false, false, false, false, false, false, false, false, false, false, false, false, false, false, false, false, false, false, false, false, false, false, false, false, false] rfl rfl (any_of HT_.out (by kernel_rfl)) (fun _ _ _ h => h) (Or.inl ⟨by rfl, ?_⟩) ?_ ?_
                     rotate_left
                     ·intro w'
                      go_simp
                      with_reducible rfl
                     rotate_left
                     ·simp only [Act.put, List.setIfInBounds_toArray, List.set_cons_zero, List.set_cons_succ, i64_w, i32_w]
                      rfl
                     refine pure_ (i := 14) (N := some 142) (v := ?_) (a' := ?_) #[true, true, true, true, true, true, true, true, true, true, true, true, true, true, true, false, false, false, false, false, false, false, false, false, false, false, false, false, false, false, false, false, false, false, false, false, false, false, false, false, false, false] rfl rfl (any_of HT_.out (by kernel_rfl)) (fun _ _ _ h => h) (Or.inl ⟨by rfl, ?_⟩) ?_ ?_
                     rotate_left
                     ·intro w'
                      go_simp
                      with_reducible rfl
                     rotate_left
                     ·simp only [Act.put, List.setIfInBounds_toArray, List.set_cons_zero, List.set_cons_succ, i64_w, i32_w]
                      rfl
                     refine pure_ (i := 15) (N := some 143) (v := ?_) (a' := ?_) #[true, true, true, true, true, true, true, true, true, true, true, true, true, true, true, true, false, false, false, false, false, false, false, false, false, false, false, false, false, false, false, false, false, false, false, false, false, false, false, false, false, false] rfl rfl (any_of HT_.out (by kernel_rfl)) (fun _ _ _ h => h) (Or.inl ⟨by rfl, ?_⟩) ?_ ?_
                     rotate_left
                     ·intro w'
                      go_simp
                      with_reducible rfl
                     rotate_left
                     ·simp only [Act.put, List.setIfInBounds_toArray, List.set_cons_zero, List.set_cons_succ, i64_w, i32_w]
                      rfl
                     refine pure_ (i := 16) (N := some 144) (v := ?_) (a' := ?_) #[true, true, true, true, true, true, true, true, true, true, true, true, true, true, true, true, true, false, false, false, false, false, false, false, false, false, false, false, false, false, false, false, false, false, false, false, false, false, false, false, false, false] rfl rfl (any_of HT_.out (by kernel_rfl)) (fun _ _ _ h => h) (Or.inl ⟨by rfl, ?_⟩) ?_ ?_
                     rotate_left
                     ·intro w'
                      go_simp
                      with_reducible rfl
                     rotate_left
                     ·simp only [Act.put, List.setIfInBounds_toArray, List.set_cons_zero, List.set_cons_succ, i64_w, i32_w]
                      rfl
                     refine pure_ (i := 17) (N := some 145) (v := ?_) (a' := ?_) #[true, true, true, true, true, true, true, true, true, true, true, true, true, true, true, true, true, true, false, false, false, false, false, false, false, false, false, false, false, false, false, false, false, false, false, false, false, false, false, false, false, false] rfl rfl (any_of HT_.out (by kernel_rfl)) (fun _ _ _ h => h) (Or.inl ⟨by rfl, ?_⟩) ?_ ?_
                     rotate_left
                     ·intro w'
                      go_simp
                      with_reducible rfl
                     rotate_left
                     ·simp only [Act.put, List.setIfInBounds_toArray, List.set_cons_zero, List.set_cons_succ, i64_w, i32_w]
                      rfl
                     refine pure_ (i := 18) (N := some 146) (v := ?_) (a' := ?_) #[true, true, true, true, true, true, true, true, true, true, true, true, true, true, true, true, true, true, true, false, false, false, false, false, false, false, false, false, false, false, false, false, false, false, false, false, false, false, false, false, false, false] rfl rfl (any_of HT_.out (by kernel_rfl)) (fun _ _ _ h => h) (Or.inl ⟨by rfl, ?_⟩) ?_ ?_
                     rotate_left
                     ·intro w'
                      go_simp
                      with_reducible rfl
                     rotate_left
                     ·simp only [Act.put, List.setIfInBounds_toArray, List.set_cons_zero, List.set_cons_succ, i64_w, i32_w]
                      rfl
                     refine pure_ (i := 19) (N := some 147) (v := ?_) (a' := ?_) #[true, true, true, true, true, true, true, true, true, true, true, true, true, true, true, true, true, true, true, true, false, false, false, false, false, false, false, false, false, false, false, false, false, false, false, false, false, false, false, false, false, false] rfl rfl (any_of HT_.out (by kernel_rfl)) (fun _ _ _ h => h) (Or.inl ⟨by rfl, ?_⟩) ?_ ?_
                     rotate_left
                     ·intro w'
                      go_simp
                      with_reducible rfl
                     rotate_left
                     ·simp only [Act.put, List.setIfInBounds_toArray, List.set_cons_zero, List.set_cons_succ, i64_w, i32_w]
                      rfl
                     refine pure_ (i := 20) (N := some 148) (v := ?_) (a' := ?_) #[true, true, true, true, true, true, true, true, true, true, true, true, true, true, true, true, true, true, true, true, true, false, false, false, false, false, false, false, false, false, false, false, false, false, false, false, false, false, false, false, false, false] rfl rfl (any_of HT_.out (by kernel_rfl)) (fun _ _ _ h => h) (Or.inl ⟨by rfl, ?_⟩) ?_ ?_
                     rotate_left
                     ·intro w'
                      go_simp
                      with_reducible rfl
                     rotate_left
                     ·simp only [Act.put, List.setIfInBounds_toArray, List.set_cons_zero, List.set_cons_succ, i64_w, i32_w]
                      rfl
                     refine pure_ (i := 23) (N := some 151) (v := ?_) (a' := ?_) #[true, true, true, true, true, true, true, true, true, true, true, true, true, true, true, true, true, true, true, true, true, false, false, true, false, false, false, false, false, false, false, false, false, false, false, false, false, false, false, false, false, false] rfl rfl (any_of HT_.out (by kernel_rfl)) (fun _ _ _ h => h) (Or.inl ⟨by rfl, ?_⟩) ?_ ?_
                     rotate_left
                     ·intro w'
                      go_simp
                      with_reducible rfl
                     rotate_left
                     ·simp only [Act.put, List.setIfInBounds_toArray, List.set_cons_zero, List.set_cons_succ, i64_w, i32_w]
                      rfl
                     refine pure_ (i := 24) (N := some 152) (v := ?_) (a' := ?_) #[true, true, true, true, true, true, true, true, true, true, true, true, true, true, true, true, true, true, true, true, true, false, false, true, true, false, false, false, false, false, false, false, false, false, false, false, false, false, false, false, false, false] rfl rfl (any_of HT_.out (by kernel_rfl)) (fun _ _ _ h => h) (Or.inl ⟨by rfl, ?_⟩) ?_ ?_
                     rotate_left
                     ·intro w'
                      go_simp
                      with_reducible rfl
                     rotate_left
                     ·simp only [Act.put, List.setIfInBounds_toArray, List.set_cons_zero, List.set_cons_succ, i64_w, i32_w]
                      rfl
                     refine one_ (i := 21) (N := some 149) #[true, true, true, true, true, true, true, true, true, true, true, true, true, true, true, true, true, true, true, true, true, true, false, true, true, false, false, false, false, false, false, false, false, false, false, false, false, false, false, false, false, false] rfl rfl (one_of HT_.out (by kernel_rfl)) (by decide) (fun K hK => ?_)
                     refine goes_ Try.func21 (by kernel_rfl) rfl #[.slice (some ad150) t102.length co30, .int .i64 t116] (by rfl) rfl rfl (by (try simp only [List.map_toArray, List.map_cons, List.map_nil]); first | done | rfl | (simp only [List.length_drop, List.length_take]; rfl)) ?_
                     with_reducible refine (impl_Owner.calls kj45 _ _ t102 t116 t143 _ ?side1 ?side2 A71.out).mono ?_
                     (case side1 => repeat (first | exact (Kd.R_reads' HO_3.out).2.2 | (with_reducible refine Kd.C_alloc ?_ _) | (with_reducible refine Kd.C_drewN ?_ _) | (with_reducible refine Kd.C_drew ?_)))
                     (case side2 => exact (Kd.R_reads' HO_3.out).2.1)
                     rintro e w90 ⟨v144, rfl, ho0, hb⟩
                     have HS1_ := (hb.cell (World.block_lt_of_cell? _ _ hHeld)).trans hHeld
                     refine ⟨_, rfl, ?_⟩
                     have n0_ := re HO_3 (Kd.R_base ho0) hb
                     have n1_ := Aside0.mk (Kd.R_lower (Kd.R_new' ho0 (Kd.R_lt (by (with_reducible repeat (first | apply Kd.R_alloc | apply Kd.R_drewN | apply Kd.R_drew)); exact HO_3.out))) (below_size (by repeat (first | (with_reducible first | exact HB.out | apply below_alloc | apply pw_below_drewN | apply below_drew1 | refine below_set ?_ GE107.out | refine below_set ?_ GE108.out | refine below_set ?_ GE123.out | refine below_set ?_ GE136.out) | exact HB.out))))
                     have n2_ := bb BK107 hb; have n3_ := bb BK108 hb; have n4_ := bb BK123 hb; have n5_ := bb BK136 hb
                     have n6_ := Aside0.mk (Kd.C_below (by repeat (first | (with_reducible exact HR140.out) | (with_reducible refine Kd.C_alloc ?_ _) | (with_reducible refine Kd.C_drewN ?_ _) | (with_reducible refine Kd.C_drew ?_) | exact HR140.out)) hb)
                     have n7_ := bs4 HB hb GE107 GE108 GE123 GE136; clear HO_3; clear BK107; clear BK108; clear BK123; clear BK136; clear HR140; clear HB; have HO_3 := n0_; have HO145 := n1_; have BK107 := n2_; have BK108 := n3_; have BK123 := n4_; have BK136 := n5_; have HR140 := n6_; have HB := n7_; clear n0_ n1_ n2_ n3_ n4_ n5_ n6_ n7_
                     (try clear hb)
                     (try clear hb2)
                     (try clear hk)
                     (try clear hi)
                     (try clear ho0)
                     obtain ⟨Ao91, co91, eo91⟩ := Kd.R_slice HO145.out
                     (first | subst eo91 | (injection eo91 with f1_ f2_ f3_; have f4_ := f1_.symm; have f5_ := f3_.symm; clear f1_ f2_ f3_; subst f4_; subst f5_))
                     refine hK.out _ _ HS1_ (fun hHeld => ?_)
                     clear hK K
                     refine norm_ (a' := ?_) ?_ ?_
                     rotate_left
                     ·show Act.put _ (some 149) _ = _
                      simp only [Act.put, List.setIfInBounds_toArray, List.set_cons_zero, List.set_cons_succ, i64_w, i32_w]
                      rfl
                     refine pure_ (i := 22) (N := some 150) (v := ?_) (a' := ?_) #[true, true, true, true, true, true, true, true, true, true, true, true, true, true, true, true, true, true, true, true, true, true, true, true, true, false, false, false, false, false, false, false, false, false, false, false, false, false, false, false, false, false] rfl rfl (any_of HT_.out (by kernel_rfl)) (fun _ _ _ h => h) (Or.inl ⟨by rfl, ?_⟩) ?_ ?_
                     rotate_left
                     ·intro w'
                      go_simp
                      with_reducible rfl
                     rotate_left
                     ·simp only [Act.put, List.setIfInBounds_toArray, List.set_cons_zero, List.set_cons_succ, i64_w, i32_w]
                      rfl
                     refine pure_ (i := 25) (N := some 153) (v := ?_) (a' := ?_) #[true, true, true, true, true, true, true, true, true, true, true, true, true, true, true, true, true, true, true, true, true, true, true, true, true, true, false, false, false, false, false, false, false, false, false, false, false, false, false, false, false, false] rfl rfl (any_of HT_.out (by kernel_rfl)) (fun _ _ _ h => h) (Or.inl ⟨by rfl, ?_⟩) ?_ ?_
                     rotate_left
                     ·intro w'
                      go_simp
                      with_reducible rfl
                     rotate_left
                     ·simp only [Act.put, List.setIfInBounds_toArray, List.set_cons_zero, List.set_cons_succ, i64_w, i32_w]
                      rfl
                     refine pure_ (i := 26) (N := some 154) (v := ?_) (a' := ?_) #[true, true, true, true, true, true, true, true, true, true, true, true, true, true, true, true, true, true, true, true, true, true, true, true, true, true, true, false, false, false, false, false, false, false, false, false, false, false, false, false, false, false] rfl rfl (any_of HT_.out (by kernel_rfl)) (fun _ _ _ h => h) (Or.inl ⟨by rfl, ?_⟩) ?_ ?_
                     rotate_left
                     ·intro w'
                      go_simp
                      with_reducible rfl
                     rotate_left
                     ·simp only [Act.put, List.setIfInBounds_toArray, List.set_cons_zero, List.set_cons_succ, i64_w, i32_w]
                      rfl
                     refine pure_ (i := 27) (N := some 155) (v := ?_) (a' := ?_) #[true, true, true, true, true, true, true, true, true, true, true, true, true, true, true, true, true, true, true, true, true, true, true, true, true, true, true, true, false, false, false, false, false, false, false, false, false, false, false, false, false, false] rfl rfl (any_of HT_.out (by kernel_rfl)) (fun _ _ _ h => h) (Or.inl ⟨by rfl, ?_⟩) ?_ ?_
                     rotate_left
                     ·intro w'
                      go_simp
                      with_reducible rfl
                     rotate_left
                     ·simp only [Act.put, List.setIfInBounds_toArray, List.set_cons_zero, List.set_cons_succ, i64_w, i32_w]
                      rfl
                     refine pure_ (i := 28) (N := some 156) (v := ?_) (a' := ?_) #[true, true, true, true, true, true, true, true, true, true, true, true, true, true, true, true, true, true, true, true, true, true, true, true, true, true, true, true, true, false, false, false, false, false, false, false, false, false, false, false, false, false] rfl rfl (any_of HT_.out (by kernel_rfl)) (fun _ _ _ h => h) (Or.inl ⟨by rfl, ?_⟩) ?_ ?_
                     rotate_left
                     ·intro w'
                      go_simp
                      with_reducible rfl
                     rotate_left
                     ·simp only [Act.put, List.setIfInBounds_toArray, List.set_cons_zero, List.set_cons_succ, i64_w, i32_w]
                      rfl
                     refine pure_ (i := 29) (N := some 157) (v := ?_) (a' := ?_) #[true, true, true, true, true, true, true, true, true, true, true, true, true, true, true, true, true, true, true, true, true, true, true, true, true, true, true, true, true, true, false, false, false, false, false, false, false, false, false, false, false, false] rfl rfl (any_of HT_.out (by kernel_rfl)) (fun _ _ _ h => h) (Or.inl ⟨by rfl, ?_⟩) ?_ ?_
                     rotate_left
                     ·intro w'
                      go_simp
                      with_reducible rfl
                     rotate_left
                     ·simp only [Act.put, List.setIfInBounds_toArray, List.set_cons_zero, List.set_cons_succ, i64_w, i32_w]
                      rfl
                     refine pure_ (i := 33) (N := some 161) (v := ?_) (a' := ?_) #[true, true, true, true, true, true, true, true, true, true, true, true, true, true, true, true, true, true, true, true, true, true, true, true, true, true, true, true, true, true, false, false, false, true, false, false, false, false, false, false, false, false] rfl rfl (any_of HT_.out (by kernel_rfl)) (fun _ _ _ h => h) (Or.inl ⟨by rfl, ?_⟩) ?_ ?_
                     rotate_left
                     ·intro w'
                      go_simp
                      with_reducible rfl
                     rotate_left
                     ·simp only [Act.put, List.setIfInBounds_toArray, List.set_cons_zero, List.set_cons_succ, i64_w, i32_w]
                      rfl
                     refine pure_ (i := 34) (N := some 162) (v := ?_) (a' := ?_) #[true, true, true, true, true, true, true, true, true, true, true, true, true, true, true, true, true, true, true, true, true, true, true, true, true, true, true, true, true, true, false, false, false, true, true, false, false, false, false, false, false, false] rfl rfl (any_of HT_.out (by kernel_rfl)) (fun _ _ _ h => h) (Or.inl ⟨by rfl, ?_⟩) ?_ ?_
                     rotate_left
                     ·intro w'
                      go_simp
                      with_reducible rfl
                     rotate_left
                     ·simp only [Act.put, List.setIfInBounds_toArray, List.set_cons_zero, List.set_cons_succ, i64_w, i32_w]
                      rfl
                     refine pure_ (i := 36) (N := some 164) (v := ?_) (a' := ?_) #[true, true, true, true, true, true, true, true, true, true, true, true, true, true, true, true, true, true, true, true, true, true, true, true, true, true, true, true, true, true, false, false, false, true, true, false, true, false, false, false, false, false] rfl rfl (any_of HT_.out (by kernel_rfl)) (fun _ _ _ h => h) (Or.inl ⟨by rfl, ?_⟩) ?_ ?_
                     rotate_left
                     ·intro w'
                      go_simp
                      with_reducible rfl
                     rotate_left
                     ·simp only [Act.put, List.setIfInBounds_toArray, List.set_cons_zero, List.set_cons_succ, i64_w, i32_w]
                      rfl
                     refine pure_ (i := 37) (N := some 165) (v := ?_) (a' := ?_) #[true, true, true, true, true, true, true, true, true, true, true, true, true, true, true, true, true, true, true, true, true, true, true, true, true, true, true, true, true, true, false, false, false, true, true, false, true, true, false, false, false, false] rfl rfl (any_of HT_.out (by kernel_rfl)) (fun _ _ _ h => h) (Or.inl ⟨by rfl, ?_⟩) ?_ ?_
                     rotate_left
                     ·intro w'
                      go_simp
                      with_reducible rfl
                     rotate_left
                     ·simp only [Act.put, List.setIfInBounds_toArray, List.set_cons_zero, List.set_cons_succ, i64_w, i32_w]
                      rfl
                     refine take_ (i := 35) (N := some 163) (v := ?_) (a' := ?_) #[true, true, true, true, true, true, true, true, true, true, true, true, true, true, true, true, true, true, true, true, true, true, true, true, true, true, true, true, true, true, false, false, false, true, true, true, true, true, false, false, false, false] rfl rfl (take_ofW HT_.out HW_.out (by kernel_rfl)) (fun _ _ _ h => h) (Or.inl ⟨by rfl, ?_⟩) hHeld ?_ ?_
                     rotate_left
                     ·intro w' s1
                      go_simp
                      with_reducible rfl
                     rotate_left
                     ·simp only [Act.put, List.setIfInBounds_toArray, List.set_cons_zero, List.set_cons_succ, i64_w, i32_w]
                      rfl
                     refine pure_ (i := 38) (N := some 166) (v := ?_) (a' := ?_) #[true, true, true, true, true, true, true, true, true, true, true, true, true, true, true, true, true, true, true, true, true, true, true, true, true, true, true, true, true, true, false, false, false, true, true, true, true, true, true, false, false, false] rfl rfl (any_of HT_.out (by kernel_rfl)) (fun _ _ _ h => h) (Or.inl ⟨by rfl, ?_⟩) ?_ ?_
                     rotate_left
                     ·intro w'
                      go_simp
                      with_reducible rfl
                     rotate_left
                     ·simp only [Act.put, List.setIfInBounds_toArray, List.set_cons_zero, List.set_cons_succ, i64_w, i32_w]
                      rfl
                     refine one_ (i := 30) (N := some 158) #[true, true, true, true, true, true, true, true, true, true, true, true, true, true, true, true, true, true, true, true, true, true, true, true, true, true, true, true, true, true, true, false, false, true, true, true, true, true, true, false, false, false] rfl rfl (one_of HT_.out (by kernel_rfl)) (by decide) (fun K hK => ?_)
                     refine goes_ Try.func21 (by kernel_rfl) rfl #[.slice (some ad150) t102.length co30, .int .i64 t116] (by rfl) rfl rfl (by (try simp only [List.map_toArray, List.map_cons, List.map_nil]); first | done | rfl | (simp only [List.length_drop, List.length_take]; rfl)) ?_
                     with_reducible refine (impl_Owner.calls kj45 _ _ t102 t116 t146 _ ?side1 ?side2 A73.out).mono ?_
                     (case side1 => repeat (first | exact (Kd.R_reads' HO_3.out).2.2 | (with_reducible refine Kd.C_alloc ?_ _) | (with_reducible refine Kd.C_drewN ?_ _) | (with_reducible refine Kd.C_drew ?_)))
                     (case side2 => exact (Kd.R_reads' HO_3.out).2.1)
                     rintro e w92 ⟨v147, rfl, ho0, hb⟩
                     have HS1_ := (hb.cell (World.block_lt_of_cell? _ _ hHeld)).trans hHeld
                     refine ⟨_, rfl, ?_⟩
                     have n0_ := re HO_3 (Kd.R_base ho0) hb; have n1_ := re HO145 (Kd.R_base ho0) hb
                     have n2_ := Aside0.mk (Kd.R_lower (Kd.R_new' (Kd.R_new' ho0 (Kd.R_lt (by (with_reducible repeat (first | apply Kd.R_alloc | apply Kd.R_drewN | apply Kd.R_drew)); exact HO_3.out))) (Kd.R_lt (by (with_reducible repeat (first | apply Kd.R_alloc | apply Kd.R_drewN | apply Kd.R_drew)); exact HO145.out))) (below_size (by repeat (first | (with_reducible first | exact HB.out | apply below_alloc | apply pw_below_drewN | apply below_drew1 | refine below_set ?_ GE107.out | refine below_set ?_ GE108.out | refine below_set ?_ GE123.out | refine below_set ?_ GE136.out) | exact HB.out))))
                     have n3_ := bb BK107 hb; have n4_ := bb BK108 hb; have n5_ := bb BK123 hb; have n6_ := bb BK136 hb
                     have n7_ := Aside0.mk (Kd.C_below (by repeat (first | (with_reducible exact HR140.out) | (with_reducible refine Kd.C_alloc ?_ _) | (with_reducible refine Kd.C_drewN ?_ _) | (with_reducible refine Kd.C_drew ?_) | exact HR140.out)) hb)
                     have n8_ := bs4 HB hb GE107 GE108 GE123 GE136; clear HO_3; clear HO145; clear BK107; clear BK108; clear BK123; clear BK136; clear HR140; clear HB; have HO_3 := n0_; have HO145 := n1_; have HO148 := n2_; have BK107 := n3_; have BK108 := n4_; have BK123 := n5_; have BK136 := n6_; have HR140 := n7_; have HB := n8_; clear n0_ n1_ n2_ n3_ n4_ n5_ n6_ n7_ n8_
                     (try clear hb)
                     (try clear hb2)
                     (try clear hk)
                     (try clear hi)
                     (try clear ho0)
                     obtain ⟨Ao93, co93, eo93⟩ := Kd.R_slice HO148.out
                     (first | subst eo93 | (injection eo93 with f1_ f2_ f3_; have f4_ := f1_.symm; have f5_ := f3_.symm; clear f1_ f2_ f3_; subst f4_; subst f5_))
                     have p149 : 0 ≤ (0 : Int) := (by omega)
                     have q149 : 0 < (t146.length : Int) := of_decide_eq_true (by first | (with_reducible assumption) | assumption)
                     obtain ⟨ad149, e149, hx149_0⟩ := Kd.at_bool (Kd.R_reads' HO148.out).2.2 0 p149 q149
                     cases e149
                     have qi149 : (0 < t146.length) = True := eq_true (by omega)
                     (try rw [show ((0 : Int)).toNat = 0 from rfl] at hx149_0)
                     (try rw [Addr.add_zero'] at hx149_0)
                     replace p149 := eq_true p149
                     replace q149 := eq_true q149
                     refine hK.out _ _ HS1_ (fun hHeld => ?_)
                     clear hK K
                     refine norm_ (a' := ?_) ?_ ?_
                     rotate_left
                     ·show Act.put _ (some 158) _ = _
                      simp only [Act.put, List.setIfInBounds_toArray, List.set_cons_zero, List.set_cons_succ, i64_w, i32_w]
                      rfl
                     refine pure_ (i := 31) (N := some 159) (v := ?_) (a' := ?_) #[true, true, true, true, true, true, true, true, true, true, true, true, true, true, true, true, true, true, true, true, true, true, true, true, true, true, true, true, true, true, true, true, false, true, true, true, true, true, true, false, false, false] rfl rfl (any_of HT_.out (by kernel_rfl)) (fun _ _ _ h => h) (Or.inl ⟨by rfl, ?_⟩) ?_ ?_
                     rotate_left
                     ·intro w'
                      go_simp
                      with_reducible rfl
                     rotate_left
                     ·simp only [Act.put, List.setIfInBounds_toArray, List.set_cons_zero, List.set_cons_succ, i64_w, i32_w]
                      rfl
                     refine one_ (i := 32) (N := some 160) #[true, true, true, true, true, true, true, true, true, true, true, true, true, true, true, true, true, true, true, true, true, true, true, true, true, true, true, true, true, true, true, true, true, true, true, true, true, true, true, false, false, false] rfl rfl (one_of HT_.out (by kernel_rfl)) (by decide) (fun K hK => ?_)
                     refine value_ (w1 := ?_) (v := ?_) (by rfl) rfl ?_ ?_
                     rotate_left 2
                     ·go_simp
                      constructor
                      ·rfl
                      ·rfl
                     refine hK.out _ _ hHeld (fun hHeld => ?_)
                     clear hK K
                     refine norm_ (a' := ?_) ?_ ?_
                     rotate_left
                     ·show Act.put _ (some 160) _ = _
                      simp only [Act.put, List.setIfInBounds_toArray, List.set_cons_zero, List.set_cons_succ, i64_w, i32_w]
                      rfl
                     refine pure_ (i := 39) (N := some 167) (v := ?_) (a' := ?_) #[true, true, true, true, true, true, true, true, true, true, true, true, true, true, true, true, true, true, true, true, true, true, true, true, true, true, true, true, true, true, true, true, true, true, true, true, true, true, true, true, false, false] rfl rfl (any_of HT_.out (by kernel_rfl)) (fun _ _ _ h => h) (Or.inl ⟨by rfl, ?_⟩) ?_ ?_
                     rotate_left
                     ·intro w'
                      go_simp
                      with_reducible rfl
                     rotate_left
                     ·simp only [Act.put, List.setIfInBounds_toArray, List.set_cons_zero, List.set_cons_succ, i64_w, i32_w]
                      rfl
                     refine pure_ (i := 40) (N := some 168) (v := ?_) (a' := ?_) #[true, true, true, true, true, true, true, true, true, true, true, true, true, true, true, true, true, true, true, true, true, true, true, true, true, true, true, true, true, true, true, true, true, true, true, true, true, true, true, true, true, false] rfl rfl (any_of HT_.out (by kernel_rfl)) (fun _ _ _ h => h) (Or.inl ⟨by rfl, ?_⟩) ?_ ?_
                     rotate_left
                     ·intro w'
                      go_simp
                      with_reducible rfl
                     rotate_left
                     ·simp only [Act.put, List.setIfInBounds_toArray, List.set_cons_zero, List.set_cons_succ, i64_w, i32_w]
                      rfl
                     refine pure_ (i := 41) (N := some 2) (v := ?_) (a' := ?_) #[true, true, true, true, true, true, true, true, true, true, true, true, true, true, true, true, true, true, true, true, true, true, true, true, true, true, true, true, true, true, true, true, true, true, true, true, true, true, true, true, true, true] rfl rfl (any_of HT_.out (by kernel_rfl)) (fun _ _ _ h => h) (Or.inl ⟨by rfl, ?_⟩) ?_ ?_
                     rotate_left
                     ·intro w'
                      go_simp
                      with_reducible rfl
                     rotate_left
                     ·simp only [Act.put, List.setIfInBounds_toArray, List.set_cons_zero, List.set_cons_succ, i64_w, i32_w]
                      rfl
                     refine done_ (done_of HT_.out (by kernel_rfl)) ?_
                     try go_wp2
                     go_ret
                     exact ⟨by first | rfl | (simp [errW_none, errW_some] <;> rfl) | (simp [*, errW_none, errW_some] <;> rfl) | (simp [errW_none, errW_some, show ¬ t146 = [] from by intro h_; rw [h_] at c74b0; simp at c74b0, show ¬ t102 = [] from by intro h_; rw [h_] at c75b0; simp at c75b0]; done) | (simp [*, show ¬ t146 = [] from by intro h_; rw [h_] at c74b0; simp at c74b0, show ¬ t102 = [] from by intro h_; rw [h_] at c75b0; simp at c75b0]; done) | (simp [errW_none, errW_some, show ¬ t146 = [] from by intro h_; rw [h_] at c74b0; simp at c74b0, show ¬ t102 = [] from by intro h_; rw [h_] at c75b0; simp at c75b0] <;> rfl), by repeat (first | (with_reducible first | exact HB.out | apply below_alloc | apply pw_below_drewN | apply below_drew1 | refine below_set ?_ GE107.out | refine below_set ?_ GE108.out | refine below_set ?_ GE123.out | refine below_set ?_ GE136.out) | exact HB.out)⟩
                    ·rw [if_neg c75] at H
                     exact absurd H (by simp)
                   ·rw [if_neg c74] at H
                    exact absurd H (by simp)
                  ·rw [if_neg c72] at H
                   have c72b0 : ((t143.length : Int) == (t102.length : Int)) = false := beq_eq_false_iff_ne.mpr c72; have c72b1 : ((t143.length : Int) != (t102.length : Int)) = true := bne_iff_ne.mpr c72
                   have c72b2 : (t143.length == t102.length) = false := by first | simpa using c72 | (simp at c72 ⊢; omega)
                   exact absurd ((Option.some.inj H).trans HT.out) (by decide)
                 ·rw [if_neg c70] at H
                  have c70b0 : ((t118 == 0) == (t141 == t116)) = false := by simpa using c70
                  (try (have c70b1 : decide ((t118 == 0) = (t141 == t116)) = false := by simpa using c70))
                  (try (have c70b2 : ((t118 == 0) == (t141 == t116)) = false := by simpa using c70))
                  (try (have c70b3 : ¬ ((t118 == 0) = (t141 == t116)) := by simpa using c70))
                  clear c70
                  exact absurd ((Option.some.inj H).trans HT.out) (by decide)
                ·replace c69 := Bool.eq_false_iff.mpr c69
                 subst c69
                 have H1 : ((impl_Owner.f kj45 t102 t116).bind fun t151 => (if (t151.length : Int) = (t102.length : Int) then ((impl_Owner.f kj45 t102 t116).bind fun t154 => (if 0 < (t154.length : Int) then (if 0 < (t102.length : Int) then (some ((rdOf false t154 0) == ((rdOf false t102 0) == (t116 == 0)))) else (none)) else (none))) else (some false))) = some r := by rw [if_neg (show ¬ (false = true) by decide)] at H; exact H
                 clear H; have H := H1; clear H1
                 replace H := Option.bind_eq_some_iff.mp H
                 obtain ⟨t151, A940, H⟩ := H
                 replace H : (if (t151.length : Int) = (t102.length : Int) then ((impl_Owner.f kj45 t102 t116).bind fun t154 => (if 0 < (t154.length : Int) then (if 0 < (t102.length : Int) then (some ((rdOf false t154 0) == ((rdOf false t102 0) == (t116 == 0)))) else (none)) else (none))) else (some false)) = some r := H
                 have A94 := Aside0.mk A940; clear A940
                 by_cases c95 : (t151.length : Int) = (t102.length : Int)
                 ·rw [if_pos c95] at H
                  have c95b0 : ((t151.length : Int) == (t102.length : Int)) = true := beq_iff_eq.mpr c95; have c95b1 : ((t151.length : Int) != (t102.length : Int)) = false := bne_eq_false_iff_eq.mpr c95
                  have c95b2 : (t151.length == t102.length) = true := by first | simpa using c95 | (simp at c95 ⊢; omega)
                  clear c95
                  replace H := Option.bind_eq_some_iff.mp H
                  obtain ⟨t154, A960, H⟩ := H
                  replace H : (if 0 < (t154.length : Int) then (if 0 < (t102.length : Int) then (some ((rdOf false t154 0) == ((rdOf false t102 0) == (t116 == 0)))) else (none)) else (none)) = some r := H
                  have A96 := Aside0.mk A960; clear A960
                  by_cases c97 : 0 < (t154.length : Int)
                  ·rw [if_pos c97] at H
                   have c97b0 : decide (0 < (t154.length : Int)) = true := decide_eq_true c97
                   have c97b1 : decide (0 < t154.length) = true := decide_eq_true (by omega)
                   clear c97
                   by_cases c98 : 0 < (t102.length : Int)
                   ·rw [if_pos c98] at H
                    have c98b0 : decide (0 < (t102.length : Int)) = true := decide_eq_true c98
                    have c98b1 : decide (0 < t102.length) = true := decide_eq_true (by omega)
                    clear c98
                    obtain rfl := Option.some.inj H
                    have hnb99 := NB107_108.out; have hnc99 := NB108_107.out; have hnb100 := NB107_123.out; have hnc100 := NB123_107.out; have hcz101_0 : wc.cell? ⟨gb107, 0, none⟩ = some (.int .i64 t105) := (blk_cell BK107.out 0).trans rfl; have hcz101_1 : wc.cell? ⟨gb107, 1, none⟩ = some (.string t106) := (blk_cell BK107.out 1).trans rfl; have hfz101_0 := blk_frozen BK107.out 0; have hfz101_1 := blk_frozen BK107.out 1
                    try go_wp2_with (first | ((with_reducible refine gate_callee (f := 20) rfl ?_); refine goesL_ (some 118) rfl rfl Try.func20 (by kernel_rfl) rfl #[.agg #[.int .i64 t105, .string t106], .int .i64 0] rfl (by (try simp only [List.map_toArray, List.map_cons, List.map_nil]); first | done | rfl | (simp only [List.length_drop, List.length_take]; rfl)) ?_; (with_reducible refine (impl_Half.calls kj45 t105 t106 0 t133 t134 t135 _ A64.out).mono ?_); rintro e w102 ⟨rfl, hb⟩; refine ⟨_, rfl, ?_⟩; have n0_ := rb HO_3 hb; have n1_ := bb BK107 hb; have n2_ := bb BK108 hb; have n3_ := bb BK123 hb; have n4_ := Aside0.mk (Kd.C_below (by repeat (first | (with_reducible exact HR127.out) | (with_reducible refine Kd.C_alloc ?_ _) | (with_reducible refine Kd.C_drewN ?_ _) | (with_reducible refine Kd.C_drew ?_) | exact HR127.out)) hb); have n5_ := bs3 HB hb GE107 GE108 GE123; clear HO_3; clear BK107; clear BK108; clear BK123; clear HR127; clear HB; have HO_3 := n0_; have BK107 := n1_; have BK108 := n2_; have BK123 := n3_; have HR127 := n4_; have HB := n5_; clear n0_ n1_ n2_ n3_ n4_ n5_; (try clear hb); (try clear hb2); (try clear hk); (try clear hi)) | ((with_reducible refine gate_dst (N := 19) rfl ?_); (try (refine gate_guard (by rfl) ?_; dsimp only)); refine box_event ?hg (N := 19) ?hd (cs := #[.int .i64 0, .string (⟨#[]⟩ : ByteArray)]) (t := 26) ?hr ?_; (case hd => rfl); (case hg => rfl); (case hr => first | (go_simp; done) | (go_simp; rfl)); intro gb136 hg w103 hbox hb; have n0_ := rb HO_3 hb; have n1_ := bb BK107 hb; have n2_ := bb BK108 hb; have n3_ := bb BK123 hb; have n4_ := Aside0.mk (Kd.C_below (by repeat (first | (with_reducible exact HR127.out) | (with_reducible refine Kd.C_alloc ?_ _) | (with_reducible refine Kd.C_drewN ?_ _) | (with_reducible refine Kd.C_drew ?_) | exact HR127.out)) hb); have n5_ := bs3 HB hb GE107 GE108 GE123; have n6_ := Aside0.mk (hbox); have n7_ := bz3 hg HB GE107 GE108 GE123; have n8_ := bz3 hg HB GE107 GE108 GE123; have n9_ := nl hg BK107; have n10_ := ng hg BK107; have n11_ := nl hg BK108; have n12_ := ng hg BK108; have n13_ := nl hg BK123; have n14_ := ng hg BK123; clear HO_3; clear BK107; clear BK108; clear BK123; clear HR127; clear HB; have HO_3 := n0_; have BK107 := n1_; have BK108 := n2_; have BK123 := n3_; have HR127 := n4_; have HB := n5_; have BK136 := n6_; have GW136 := n7_; have GE136 := n8_; have NB107_136 := n9_; have NB136_107 := n10_; have NB108_136 := n11_; have NB136_108 := n12_; have NB123_136 := n13_; have NB136_123 := n14_; clear n0_ n1_ n2_ n3_ n4_ n5_ n6_ n7_ n8_ n9_ n10_ n11_ n12_ n13_ n14_; clear hb hbox hg; have hnb104 := NB136_107.out; have hnc104 := NB107_136.out; have hnb105 := NB136_108.out; have hnc105 := NB108_136.out; have hnb106 := NB136_123.out; have hnc106 := NB123_136.out; have hcz107_0 : w103.cell? ⟨gb136, 0, none⟩ = some (.int .i64 0) := (blk_cell BK136.out 0).trans rfl; have hcz107_1 : w103.cell? ⟨gb136, 1, none⟩ = some (.string (⟨#[]⟩ : ByteArray)) := (blk_cell BK136.out 1).trans rfl; have hfz107_0 := blk_frozen BK136.out 0; have hfz107_1 := blk_frozen BK136.out 1))
                    have n0_ : Aside0 (Kd.R Kd.bool 4 ((w103.setCell ⟨gb136, 0, none⟩ (.int .i64 t133)).setCell ⟨gb136, 1, none⟩ (.string t134)) w.heap.size (fun _ => True) (.slice Ao30 t102.length co30) t102) := ⟨by (with_reducible repeat (first | apply Kd.R_alloc | apply Kd.R_drewN | apply Kd.R_drew)); exact Kd.R_mono (Kd.R_far (p := ⟨gb136, 1, none⟩) (Kd.R_far (p := ⟨gb136, 0, none⟩) (Kd.R_types HO_3.out BK136.out (by decide)) (fun _ hk => hk.2) (.int .i64 t133)) (fun _ hk => hk.2) (.string t134)) (fun _ hk => trivial)⟩
                    have n1_ : Aside0 (((w103.setCell ⟨gb136, 0, none⟩ (.int .i64 t133)).setCell ⟨gb136, 1, none⟩ (.string t134)).heap[gb107]? = some (.cells #[.int .i64 t105, .string t106] 26 (0, 0))) := ⟨by (with_reducible repeat (first | refine blk_drewN ?_ _ | refine blk_drew ?_ | refine blk_alloc ?_ _)); refine blk_far ?_ NB107_136.out _; (with_reducible repeat (first | refine blk_drewN ?_ _ | refine blk_drew ?_ | refine blk_alloc ?_ _)); refine blk_far ?_ NB107_136.out _; (with_reducible repeat (first | refine blk_drewN ?_ _ | refine blk_drew ?_ | refine blk_alloc ?_ _)); exact BK107.out⟩
                    have n2_ : Aside0 (((w103.setCell ⟨gb136, 0, none⟩ (.int .i64 t133)).setCell ⟨gb136, 1, none⟩ (.string t134)).heap[gb108]? = some (.cells #[.int .i64 t105, .string (strOfNums x6_1)] 26 (0, 0))) := ⟨by (with_reducible repeat (first | refine blk_drewN ?_ _ | refine blk_drew ?_ | refine blk_alloc ?_ _)); refine blk_far ?_ NB108_136.out _; (with_reducible repeat (first | refine blk_drewN ?_ _ | refine blk_drew ?_ | refine blk_alloc ?_ _)); refine blk_far ?_ NB108_136.out _; (with_reducible repeat (first | refine blk_drewN ?_ _ | refine blk_drew ?_ | refine blk_alloc ?_ _)); exact BK108.out⟩
                    have n3_ : Aside0 (((w103.setCell ⟨gb136, 0, none⟩ (.int .i64 t133)).setCell ⟨gb136, 1, none⟩ (.string t134)).heap[gb123]? = some (.cells #[.int .i64 t120, .string t121] 26 (0, 0))) := ⟨by (with_reducible repeat (first | refine blk_drewN ?_ _ | refine blk_drew ?_ | refine blk_alloc ?_ _)); refine blk_far ?_ NB123_136.out _; (with_reducible repeat (first | refine blk_drewN ?_ _ | refine blk_drew ?_ | refine blk_alloc ?_ _)); refine blk_far ?_ NB123_136.out _; (with_reducible repeat (first | refine blk_drewN ?_ _ | refine blk_drew ?_ | refine blk_alloc ?_ _)); exact BK123.out⟩
                    have n4_ : Aside0 (((w103.setCell ⟨gb136, 0, none⟩ (.int .i64 t133)).setCell ⟨gb136, 1, none⟩ (.string t134)).heap[gb136]? = some (.cells #[.int .i64 t133, .string t134] 26 (0, 0))) := ⟨by (with_reducible repeat (first | refine blk_drewN ?_ _ | refine blk_drew ?_ | refine blk_alloc ?_ _)); refine blk_put (cs := #[.int .i64 t133, .string (⟨#[]⟩ : ByteArray)]) ?_ 1 _ rfl; (with_reducible repeat (first | refine blk_drewN ?_ _ | refine blk_drew ?_ | refine blk_alloc ?_ _)); refine blk_put (cs := #[.int .i64 0, .string (⟨#[]⟩ : ByteArray)]) ?_ 0 _ rfl; (with_reducible repeat (first | refine blk_drewN ?_ _ | refine blk_drew ?_ | refine blk_alloc ?_ _)); exact BK136.out⟩
                    have n5_ : Aside0 (Below w.heap.size w ((w103.setCell ⟨gb136, 0, none⟩ (.int .i64 t133)).setCell ⟨gb136, 1, none⟩ (.string t134))) := ⟨by repeat (first | (with_reducible first | exact HB.out | apply below_alloc | apply pw_below_drewN | apply below_drew1 | refine below_set ?_ GE107.out | refine below_set ?_ GE108.out | refine below_set ?_ GE123.out | refine below_set ?_ GE136.out) | exact HB.out)⟩
                    (try clear HO_3)
                    (try clear BK107)
                    (try clear BK108)
                    (try clear BK123)
                    (try clear BK136)
                    (try clear HB)
                    generalize ((w103.setCell ⟨gb136, 0, none⟩ (.int .i64 t133)).setCell ⟨gb136, 1, none⟩ (.string t134)) = w108 at n0_ n1_ n2_ n3_ n4_ n5_ ⊢
                    have HO_3 := n0_; have BK107 := n1_; have BK108 := n2_; have BK123 := n3_; have BK136 := n4_; have HB := n5_; clear n0_ n1_ n2_ n3_ n4_ n5_; have n0_ := Aside0.mk (Kd.R_drew HO_3.out); have n1_ := Aside0.mk (blk_drew BK107.out); have n2_ := Aside0.mk (blk_drew BK108.out); have n3_ := Aside0.mk (blk_drew BK123.out); have n4_ := Aside0.mk (blk_drew BK136.out); have n5_ := Aside0.mk (below_drew1 HB.out); clear HO_3; clear BK107; clear BK108; clear BK123; clear BK136; clear HB; have HO_3 := n0_; have BK107 := n1_; have BK108 := n2_; have BK123 := n3_; have BK136 := n4_; have HB := n5_; clear n0_ n1_ n2_ n3_ n4_ n5_
                    have q110 : (1 : Int) ≤ ((t102.length : Int) : Int) := of_decide_eq_true (by first | (with_reducible assumption) | assumption)
                    obtain ⟨i0110, hi0110, _, hsz110, _⟩ := info_parts info4
                    have hroom110 : t102.length ≤ co30 := (Kd.R_reads' HO_3.out).2.1; have hC110 : Kd.C Kd.bool _ Ao30 t102.length t102 := (Kd.R_reads' HO_3.out).2.2
                    clear hcut58; have hcut110 := cut_from (P := Try.prog) 24 4 .i64 Try.underlying24 hi0110 1 hsz110 Ao30 t102.length co30 1 (by omega) q110
                    have hr110 := Kd.C_drop (m := (1 : Int).toNat) (c := co30) hC110 (by omega) hroom110
                    obtain ⟨A110, hA110⟩ : ∃ A1, A1 = (if co30 = (1 : Int).toNat then Ao30 else (Ao30 : Option Addr).map (·.add ((1 : Int).toNat * 1))) := ⟨_, rfl⟩
                    obtain ⟨c110, hc110⟩ : ∃ c1, c1 = co30 - (1 : Int).toNat := ⟨_, rfl⟩
                    have hy110 : y137.length = t102.length - (1 : Int).toNat := (by rw [Ny137.out, List.length_drop] <;> omega)
                    rw [show (t102).drop (1 : Int).toNat = y137 from Ny137.out.symm] at hr110
                    replace hr110 : Kd.C Kd.bool _ A110 y137.length y137 := (by rw [hA110]; exact hr110)
                    rw [← hy110, ← hA110, ← hc110] at hcut110
                    have HR140 := Aside0.mk hr110
                    have HC140 := Aside0.mk (show y137.length ≤ c110 from by rw [hy110, hc110]; exact Nat.sub_le_sub_right hroom110 _)
                    clear hr110 hC110 hroom110 hi0110 hsz110 hc110; have KY110 := Aside0.mk hy110; have KA110 := Aside0.mk hA110; clear hy110 hA110
                    have KL110 := Aside0.mk (show 1 ≤ t102.length from by omega)
                    replace q110 := eq_true q110
                    refine start_ (n := 9) (S := fun w' => w'.cell? ⟨gb136, 0, none⟩ = some (.int .i64 t133) ∧ w'.cell? ⟨gb136, 1, none⟩ = some (.string t134)) (ds := []) #[false, false, false, false, false, false, false, false, false] (by kernel_rfl) rfl rfl ⟨(blk_cell BK136.out 0).trans rfl, (blk_cell BK136.out 1).trans rfl⟩ (fun hHeld => ?_); refine with_tabW laws_FnMore.tab23 laws_FnMore.bits23 (fun HT_ HW_ => ?_)
                    generalize w108.drew = w109 at HO_3 BK107 BK108 BK123 BK136 HB HR140 hHeld ⊢
                    refine pure_ (i := 0) (N := some 122) (v := ?_) (a' := ?_) #[true, false, false, false, false, false, false, false, false] rfl rfl (any_of HT_.out (by kernel_rfl)) (fun _ _ _ h => h) (Or.inl ⟨by rfl, ?_⟩) ?_ ?_
                    rotate_left
                    ·intro w'
                     go_simp
                     with_reducible rfl
                    rotate_left
                    ·simp only [Act.put, List.setIfInBounds_toArray, List.set_cons_zero, List.set_cons_succ, i64_w, i32_w]
                     rfl
                    refine pure_ (i := 1) (N := some 123) (v := ?_) (a' := ?_) #[true, true, false, false, false, false, false, false, false] rfl rfl (any_of HT_.out (by kernel_rfl)) (fun _ _ _ h => h) (Or.inl ⟨by rfl, ?_⟩) ?_ ?_
                    rotate_left
                    ·intro w'
                     go_simp
                     with_reducible rfl
                    rotate_left
                    ·simp only [Act.put, List.setIfInBounds_toArray, List.set_cons_zero, List.set_cons_succ, i64_w, i32_w]
                     rfl
                    refine take_ (i := 2) (N := some 124) (v := ?_) (a' := ?_) #[true, true, true, false, false, false, false, false, false] rfl rfl (take_ofW HT_.out HW_.out (by kernel_rfl)) (fun _ _ _ h => h) (Or.inl ⟨by rfl, ?_⟩) hHeld ?_ ?_
                    rotate_left
                    ·rintro w' ⟨s0, s1⟩
                     go_simp
                     with_reducible rfl
                    rotate_left
                    ·simp only [Act.put, List.setIfInBounds_toArray, List.set_cons_zero, List.set_cons_succ, i64_w, i32_w]
                     rfl
                    refine one_ (i := 3) (N := some 125) #[true, true, true, true, false, false, false, false, false] rfl rfl (one_of HT_.out (by kernel_rfl)) (by decide) (fun K hK => ?_)
                    refine goes_ Try.func13 (by kernel_rfl) rfl #[.slice A110 y137.length c110, .agg #[.int .i64 t133, .string t134]] (by rfl) rfl rfl (by (try simp only [List.map_toArray, List.map_cons, List.map_nil]); first | done | rfl | (simp only [List.length_drop, List.length_take]; rfl)) ?_
                    with_reducible refine (impl_Decide.calls kj45 _ _ y137 t133 t134 t141 t142 _ ?side1 ?side2 A66.out).mono ?_
                    (case side1 => repeat (first | exact (by repeat (first | (with_reducible exact HR140.out) | (with_reducible refine Kd.C_alloc ?_ _) | (with_reducible refine Kd.C_drewN ?_ _) | (with_reducible refine Kd.C_drew ?_) | exact HR140.out)) | (with_reducible refine Kd.C_alloc ?_ _) | (with_reducible refine Kd.C_drewN ?_ _) | (with_reducible refine Kd.C_drew ?_)))
                    (case side2 => exact HC140.out)
                    rintro e w111 ⟨rfl, hb⟩
                    refine ⟨_, rfl, ?_⟩
                    have n0_ := rb HO_3 hb; have n1_ := bb BK107 hb; have n2_ := bb BK108 hb; have n3_ := bb BK123 hb; have n4_ := bb BK136 hb
                    have n5_ := Aside0.mk (Kd.C_below (by repeat (first | (with_reducible exact HR140.out) | (with_reducible refine Kd.C_alloc ?_ _) | (with_reducible refine Kd.C_drewN ?_ _) | (with_reducible refine Kd.C_drew ?_) | exact HR140.out)) hb)
                    have n6_ := bs4 HB hb GE107 GE108 GE123 GE136; clear HO_3; clear BK107; clear BK108; clear BK123; clear BK136; clear HR140; clear HB; have HO_3 := n0_; have BK107 := n1_; have BK108 := n2_; have BK123 := n3_; have BK136 := n4_; have HR140 := n5_; have HB := n6_; clear n0_ n1_ n2_ n3_ n4_ n5_ n6_
                    (try clear hb)
                    (try clear hb2)
                    (try clear hk)
                    (try clear hi)
                    refine hK.out _ _ ⟨(blk_cell BK136.out 0).trans rfl, (blk_cell BK136.out 1).trans rfl⟩ (fun hHeld => ?_)
                    clear hK K
                    refine norm_ (a' := ?_) ?_ ?_
                    rotate_left
                    ·show Act.put _ (some 125) _ = _
                     simp only [Act.put, List.setIfInBounds_toArray, List.set_cons_zero, List.set_cons_succ, i64_w, i32_w]
                     rfl
                    refine pure_ (i := 4) (N := some 121) (v := ?_) (a' := ?_) #[true, true, true, true, true, false, false, false, false] rfl rfl (any_of HT_.out (by kernel_rfl)) (fun _ _ _ h => h) (Or.inl ⟨by rfl, ?_⟩) ?_ ?_
                    rotate_left
                    ·intro w'
                     go_simp
                     with_reducible rfl
                    rotate_left
                    ·simp only [Act.put, List.setIfInBounds_toArray, List.set_cons_zero, List.set_cons_succ, i64_w, i32_w]
                     rfl
                    refine pure_ (i := 5) (N := some 126) (v := ?_) (a' := ?_) #[true, true, true, true, true, true, false, false, false] rfl rfl (any_of HT_.out (by kernel_rfl)) (fun _ _ _ h => h) (Or.inl ⟨by rfl, ?_⟩) ?_ ?_
                    rotate_left
                    ·intro w'
                     go_simp
                     with_reducible rfl
                    rotate_left
                    ·simp only [Act.put, List.setIfInBounds_toArray, List.set_cons_zero, List.set_cons_succ, i64_w, i32_w]
                     rfl
                    refine pure_ (i := 6) (N := some 127) (v := ?_) (a' := ?_) #[true, true, true, true, true, true, true, false, false] rfl rfl (any_of HT_.out (by kernel_rfl)) (fun _ _ _ h => h) (Or.inl ⟨by rfl, ?_⟩) ?_ ?_
                    rotate_left
                    ·intro w'
                     go_simp
                     with_reducible rfl
                    rotate_left
                    ·simp only [Act.put, List.setIfInBounds_toArray, List.set_cons_zero, List.set_cons_succ, i64_w, i32_w]
                     rfl
                    refine pure_ (i := 7) (N := some 21) (v := ?_) (a' := ?_) #[true, true, true, true, true, true, true, true, false] rfl rfl (any_of HT_.out (by kernel_rfl)) (fun _ _ _ h => h) (Or.inl ⟨by rfl, ?_⟩) ?_ ?_
                    rotate_left
                    ·intro w'
                     go_simp
                     with_reducible rfl
                    rotate_left
                    ·simp only [Act.put, List.setIfInBounds_toArray, List.set_cons_zero, List.set_cons_succ, i64_w, i32_w]
                     rfl
                    refine pure_ (i := 8) (N := some 22) (v := ?_) (a' := ?_) #[true, true, true, true, true, true, true, true, true] rfl rfl (any_of HT_.out (by kernel_rfl)) (fun _ _ _ h => h) (Or.inl ⟨by rfl, ?_⟩) ?_ ?_
                    rotate_left
                    ·intro w'
                     go_simp
                     with_reducible rfl
                    rotate_left
                    ·simp only [Act.put, List.setIfInBounds_toArray, List.set_cons_zero, List.set_cons_succ, i64_w, i32_w]
                     rfl
                    refine done_ (done_of HT_.out (by kernel_rfl)) ?_
                    try go_wp2
                    have n0_ := Aside0.mk (Kd.R_drew HO_3.out); have n1_ := Aside0.mk (blk_drew BK107.out); have n2_ := Aside0.mk (blk_drew BK108.out); have n3_ := Aside0.mk (blk_drew BK123.out); have n4_ := Aside0.mk (blk_drew BK136.out); have n5_ := Aside0.mk (Kd.C_drew HR140.out); have n6_ := Aside0.mk (below_drew1 HB.out); clear HO_3; clear BK107; clear BK108; clear BK123; clear BK136; clear HR140; clear HB; have HO_3 := n0_; have BK107 := n1_; have BK108 := n2_; have BK123 := n3_; have BK136 := n4_; have HR140 := n5_; have HB := n6_; clear n0_ n1_ n2_ n3_ n4_ n5_ n6_
                    have p158 : 0 ≤ (0 : Int) := (by omega)
                    have q158 : 0 < (t102.length : Int) := of_decide_eq_true (by first | (with_reducible assumption) | assumption)
                    obtain ⟨ad158, e158, hx158_0⟩ := Kd.at_bool (Kd.R_reads' HO_3.out).2.2 0 p158 q158
                    cases e158
                    have qi158 : (0 < t102.length) = True := eq_true (by omega)
                    (try rw [show ((0 : Int)).toNat = 0 from rfl] at hx158_0)
                    (try rw [Addr.add_zero'] at hx158_0)
                    replace p158 := eq_true p158
                    replace q158 := eq_true q158
                    refine start_ (n := 42) (S := fun w' => w'.cell? ad158 = some (.bool (rdOf false t102 0))) (ds := []) #[false, false, false, false, false, false, false, false, false, false, false, false, false, false, false, false, false, false, false, false, false, false, false, false, false, false, false, false, false, false, false, false, false, false, false, false, false, false, false, false, false, false] (by kernel_rfl) rfl rfl hx158_0 (fun hHeld => ?_); refine with_tabW laws_FnMore.tab24 laws_FnMore.bits24 (fun HT_ HW_ => ?_)
                    generalize w111.drew = w112 at HO_3 BK107 BK108 BK123 BK136 HR140 HB hx158_0 hHeld ⊢
                    refine pure_ (i := 0) (N := some 128) (v := ?_) (a' := ?_) #[true, false, false, false, false, false, false, false, false, false, false, false, false, false, false, false, false, false, false, false, false, false, false, false, false, false, false, false, false, false, false, false, false, false, false, false, false, false, false, false, false, false] rfl rfl (any_of HT_.out (by kernel_rfl)) (fun _ _ _ h => h) (Or.inl ⟨by rfl, ?_⟩) ?_ ?_
                    rotate_left
                    ·intro w'
                     go_simp
                     with_reducible rfl
                    rotate_left
                    ·simp only [Act.put, List.setIfInBounds_toArray, List.set_cons_zero, List.set_cons_succ, i64_w, i32_w]
                     rfl
                    refine pure_ (i := 1) (N := some 129) (v := ?_) (a' := ?_) #[true, true, false, false, false, false, false, false, false, false, false, false, false, false, false, false, false, false, false, false, false, false, false, false, false, false, false, false, false, false, false, false, false, false, false, false, false, false, false, false, false, false] rfl rfl (any_of HT_.out (by kernel_rfl)) (fun _ _ _ h => h) (Or.inl ⟨by rfl, ?_⟩) ?_ ?_
                    rotate_left
                    ·intro w'
                     go_simp
                     with_reducible rfl
                    rotate_left
                    ·simp only [Act.put, List.setIfInBounds_toArray, List.set_cons_zero, List.set_cons_succ, i64_w, i32_w]
                     rfl
                    refine pure_ (i := 2) (N := some 130) (v := ?_) (a' := ?_) #[true, true, true, false, false, false, false, false, false, false, false, false, false, false, false, false, false, false, false, false, false, false, false, false, false, false, false, false, false, false, false, false, false, false, false, false, false, false, false, false, false, false] rfl rfl (any_of HT_.out (by kernel_rfl)) (fun _ _ _ h => h) (Or.inl ⟨by rfl, ?_⟩) ?_ ?_
                    rotate_left
                    ·intro w'
                     go_simp
                     with_reducible rfl
                    rotate_left
                    ·simp only [Act.put, List.setIfInBounds_toArray, List.set_cons_zero, List.set_cons_succ, i64_w, i32_w]
                     rfl
                    refine pure_ (i := 3) (N := some 131) (v := ?_) (a' := ?_) #[true, true, true, true, false, false, false, false, false, false, false, false, false, false, false, false, false, false, false, false, false, false, false, false, false, false, false, false, false, false, false, false, false, false, false, false, false, false, false, false, false, false] rfl rfl (any_of HT_.out (by kernel_rfl)) (fun _ _ _ h => h) (Or.inl ⟨by rfl, ?_⟩) ?_ ?_
                    rotate_left
                    ·intro w'
                     go_simp
                     with_reducible rfl
                    rotate_left
                    ·simp only [Act.put, List.setIfInBounds_toArray, List.set_cons_zero, List.set_cons_succ, i64_w, i32_w]
                     rfl
                    refine pure_ (i := 4) (N := some 132) (v := ?_) (a' := ?_) #[true, true, true, true, true, false, false, false, false, false, false, false, false, false, false, false, false, false, false, false, false, false, false, false, false, false, false, false, false, false, false, false, false, false, false, false, false, false, false, false, false, false] rfl rfl (any_of HT_.out (by kernel_rfl)) (fun _ _ _ h => h) (Or.inl ⟨by rfl, ?_⟩) ?_ ?_
                    rotate_left
                    ·intro w'
                     go_simp
                     with_reducible rfl
                    rotate_left
                    ·simp only [Act.put, List.setIfInBounds_toArray, List.set_cons_zero, List.set_cons_succ, i64_w, i32_w]
                     rfl
                    refine pure_ (i := 5) (N := some 133) (v := ?_) (a' := ?_) #[true, true, true, true, true, true, false, false, false, false, false, false, false, false, false, false, false, false, false, false, false, false, false, false, false, false, false, false, false, false, false, false, false, false, false, false, false, false, false, false, false, false] rfl rfl (any_of HT_.out (by kernel_rfl)) (fun _ _ _ h => h) (Or.inl ⟨by rfl, ?_⟩) ?_ ?_
                    rotate_left
                    ·intro w'
                     go_simp
                     with_reducible rfl
                    rotate_left
                    ·simp only [Act.put, List.setIfInBounds_toArray, List.set_cons_zero, List.set_cons_succ, i64_w, i32_w]
                     rfl
                    refine pure_ (i := 6) (N := some 134) (v := ?_) (a' := ?_) #[true, true, true, true, true, true, true, false, false, false, false, false, false, false, false, false, false, false, false, false, false, false, false, false, false, false, false, false, false, false, false, false, false, false, false, false, false, false, false, false, false, false] rfl rfl (any_of HT_.out (by kernel_rfl)) (fun _ _ _ h => h) (Or.inl ⟨by rfl, ?_⟩) ?_ ?_
                    rotate_left
                    ·intro w'
                     go_simp
                     with_reducible rfl
                    rotate_left
                    ·simp only [Act.put, List.setIfInBounds_toArray, List.set_cons_zero, List.set_cons_succ, i64_w, i32_w]
                     rfl
                    refine pure_ (i := 7) (N := some 135) (v := ?_) (a' := ?_) #[true, true, true, true, true, true, true, true, false, false, false, false, false, false, false, false, false, false, false, false, false, false, false, false, false, false, false, false, false, false, false, false, false, false, false, false, false, false, false, false, false, false] rfl rfl (any_of HT_.out (by kernel_rfl)) (fun _ _ _ h => h) (Or.inl ⟨by rfl, ?_⟩) ?_ ?_
                    rotate_left
                    ·intro w'
                     go_simp
                     with_reducible rfl
                    rotate_left
                    ·simp only [Act.put, List.setIfInBounds_toArray, List.set_cons_zero, List.set_cons_succ, i64_w, i32_w]
                     rfl
                    refine pure_ (i := 8) (N := some 136) (v := ?_) (a' := ?_) #[true, true, true, true, true, true, true, true, true, false, false, false, false, false, false, false, false, false, false, false, false, false, false, false, false, false, false, false, false, false, false, false, false, false, false, false, false, false, false, false, false, false] rfl rfl (any_of HT_.out (by kernel_rfl)) (fun _ _ _ h => h) (Or.inl ⟨by rfl, ?_⟩) ?_ ?_
                    rotate_left
                    ·intro w'
                     go_simp
                     with_reducible rfl
                    rotate_left
                    ·simp only [Act.put, List.setIfInBounds_toArray, List.set_cons_zero, List.set_cons_succ, i64_w, i32_w]
                     rfl
                    refine pure_ (i := 9) (N := some 137) (v := ?_) (a' := ?_) #[true, true, true, true, true, true, true, true, true, true, false, false, false, false, false, false, false, false, false, false, false, false, false, false, false, false, false, false, false, false, false, false, false, false, false, false, false, false, false, false, false, false] rfl rfl (any_of HT_.out (by kernel_rfl)) (fun _ _ _ h => h) (Or.inl ⟨by rfl, ?_⟩) ?_ ?_
                    rotate_left
                    ·intro w'
                     go_simp
                     with_reducible rfl
                    rotate_left
                    ·simp only [Act.put, List.setIfInBounds_toArray, List.set_cons_zero, List.set_cons_succ, i64_w, i32_w]
                     rfl
                    refine pure_ (i := 10) (N := some 138) (v := undef) (a' := ?_) #[true, true, true, true, true, true, true, true, true, true, true, false, false, false, false, false, false, false, false, false, false, false, false, false, false, false, false, false, false, false, false, false, false, false, false, false, false, false, false, false, false, false] rfl rfl (any_of HT_.out (by kernel_rfl)) (fun _ _ _ h => h) (Or.inr ⟨by rfl, rfl⟩) ?_ ?_
                    rotate_left
                    ·simp only [Act.put, List.setIfInBounds_toArray, List.set_cons_zero, List.set_cons_succ, i64_w, i32_w]
                     rfl
                    refine pure_ (i := 11) (N := some 139) (v := undef) (a' := ?_) #[true, true, true, true, true, true, true, true, true, true, true, true, false, false, false, false, false, false, false, false, false, false, false, false, false, false, false, false, false, false, false, false, false, false, false, false, false, false, false, false, false, false] rfl rfl (any_of HT_.out (by kernel_rfl)) (fun _ _ _ h => h) (Or.inr ⟨by rfl, rfl⟩) ?_ ?_
                    rotate_left
                    ·simp only [Act.put, List.setIfInBounds_toArray, List.set_cons_zero, List.set_cons_succ, i64_w, i32_w]
                     rfl
                    refine pure_ (i := 12) (N := some 140) (v := undef) (a' := ?_) #[true, true, true, true, true, true, true, true, true, true, true, true, true, false, false, false, false, false, false, false, false, false, false, false, false, false, false, false, false, false, false, false, false, false, false, false, false, false, false, false, false, false] rfl rfl (any_of HT_.out (by kernel_rfl)) (fun _ _ _ h => h) (Or.inr ⟨by rfl, rfl⟩) ?_ ?_
                    rotate_left
                    ·simp only [Act.put, List.setIfInBounds_toArray, List.set_cons_zero, List.set_cons_succ, i64_w, i32_w]
                     rfl
                    refine pure_ (i := 13) (N := some 141) (v := undef) (a' := ?_) #[true, true, true, true, true, true, true, true, true, true, true, true, true, true, false, false, false, false, false, false, false, false, false, false, false, false, false, false, false, false, false, false, false, false, false, false, false, false, false, false, false, false] rfl rfl (any_of HT_.out (by kernel_rfl)) (fun _ _ _ h => h) (Or.inr ⟨by rfl, rfl⟩) ?_ ?_
                    rotate_left
                    ·simp only [Act.put, List.setIfInBounds_toArray, List.set_cons_zero, List.set_cons_succ, i64_w, i32_w]
                     rfl
                    refine pure_ (i := 14) (N := some 142) (v := undef) (a' := ?_) #[true, true, true, true, true, true, true, true, true, true, true, true, true, true, true, false, false, false, false, false, false, false, false, false, false, false, false, false, false, false, false, false, false, false, false, false, false, false, false, false, false, false] rfl rfl (any_of HT_.out (by kernel_rfl)) (fun _ _ _ h => h) (Or.inr ⟨by rfl, rfl⟩) ?_ ?_
                    rotate_left
                    ·simp only [Act.put, List.setIfInBounds_toArray, List.set_cons_zero, List.set_cons_succ, i64_w, i32_w]
                     rfl
                    refine pure_ (i := 15) (N := some 143) (v := undef) (a' := ?_) #[true, true, true, true, true, true, true, true, true, true, true, true, true, true, true, true, false, false, false, false, false, false, false, false, false, false, false, false, false, false, false, false, false, false, false, false, false, false, false, false, false, false] rfl rfl (any_of HT_.out (by kernel_rfl)) (fun _ _ _ h => h) (Or.inr ⟨by rfl, rfl⟩) ?_ ?_
                    rotate_left
                    ·simp only [Act.put, List.setIfInBounds_toArray, List.set_cons_zero, List.set_cons_succ, i64_w, i32_w]
                     rfl
                    refine pure_ (i := 16) (N := some 144) (v := ?_) (a' := ?_) #[true, true, true, true, true, true, true, true, true, true, true, true, true, true, true, true, true, false, false, false, false, false, false, false, false, false, false, false, false, false, false, false, false, false, false, false, false, false, false, false, false, false] rfl rfl (any_of HT_.out (by kernel_rfl)) (fun _ _ _ h => h) (Or.inl ⟨by rfl, ?_⟩) ?_ ?_
                    rotate_left
                    ·intro w'
                     go_simp
                     with_reducible rfl
                    rotate_left
                    ·simp only [Act.put, List.setIfInBounds_toArray, List.set_cons_zero, List.set_cons_succ, i64_w, i32_w]
                     rfl
                    refine pure_ (i := 17) (N := some 145) (v := ?_) (a' := ?_) #[true, true, true, true, true, true, true, true, true, true, true, true, true, true, true, true, true, true, false, false, false, false, false, false, false, false, false, false, false, false, false, false, false, false, false, false, false, false, false, false, false, false] rfl rfl (any_of HT_.out (by kernel_rfl)) (fun _ _ _ h => h) (Or.inl ⟨by rfl, ?_⟩) ?_ ?_
                    rotate_left
                    ·intro w'
                     go_simp
                     with_reducible rfl
                    rotate_left
                    ·simp only [Act.put, List.setIfInBounds_toArray, List.set_cons_zero, List.set_cons_succ, i64_w, i32_w]
                     rfl
                    refine pure_ (i := 18) (N := some 146) (v := ?_) (a' := ?_) #[true, true, true, true, true, true, true, true, true, true, true, true, true, true, true, true, true, true, true, false, false, false, false, false, false, false, false, false, false, false, false, false, false, false, false, false, false, false, false, false, false, false] rfl rfl (any_of HT_.out (by kernel_rfl)) (fun _ _ _ h => h) (Or.inl ⟨by rfl, ?_⟩) ?_ ?_
                    rotate_left
                    ·intro w'
                     go_simp
                     with_reducible rfl
                    rotate_left
                    ·simp only [Act.put, List.setIfInBounds_toArray, List.set_cons_zero, List.set_cons_succ, i64_w, i32_w]
                     rfl
                    refine pure_ (i := 19) (N := some 147) (v := ?_) (a' := ?_) #[true, true, true, true, true, true, true, true, true, true, true, true, true, true, true, true, true, true, true, true, false, false, false, false, false, false, false, false, false, false, false, false, false, false, false, false, false, false, false, false, false, false] rfl rfl (any_of HT_.out (by kernel_rfl)) (fun _ _ _ h => h) (Or.inl ⟨by rfl, ?_⟩) ?_ ?_
                    rotate_left
                    ·intro w'
                     go_simp
                     with_reducible rfl
                    rotate_left
                    ·simp only [Act.put, List.setIfInBounds_toArray, List.set_cons_zero, List.set_cons_succ, i64_w, i32_w]
                     rfl
                    refine pure_ (i := 20) (N := some 148) (v := ?_) (a' := ?_) #[true, true, true, true, true, true, true, true, true, true, true, true, true, true, true, true, true, true, true, true, true, false, false, false, false, false, false, false, false, false, false, false, false, false, false, false, false, false, false, false, false, false] rfl rfl (any_of HT_.out (by kernel_rfl)) (fun _ _ _ h => h) (Or.inl ⟨by rfl, ?_⟩) ?_ ?_
                    rotate_left
                    ·intro w'
                     go_simp
                     with_reducible rfl
                    rotate_left
                    ·simp only [Act.put, List.setIfInBounds_toArray, List.set_cons_zero, List.set_cons_succ, i64_w, i32_w]
                     rfl
                    refine pure_ (i := 23) (N := some 151) (v := ?_) (a' := ?_) #[true, true, true, true, true, true, true, true, true, true, true, true, true, true, true, true, true, true, true, true, true, false, false, true, false, false, false, false, false, false, false, false, false, false, false, false, false, false, false, false, false, false] rfl rfl (any_of HT_.out (by kernel_rfl)) (fun _ _ _ h => h) (Or.inl ⟨by rfl, ?_⟩) ?_ ?_
                    rotate_left
                    ·intro w'
                     go_simp
                     with_reducible rfl
                    rotate_left
                    ·simp only [Act.put, List.setIfInBounds_toArray, List.set_cons_zero, List.set_cons_succ, i64_w, i32_w]
                     rfl
                    refine pure_ (i := 24) (N := some 152) (v := ?_) (a' := ?_) #[true, true, true, true, true, true, true, true, true, true, true, true, true, true, true, true, true, true, true, true, true, false, false, true, true, false, false, false, false, false, false, false, false, false, false, false, false, false, false, false, false, false] rfl rfl (any_of HT_.out (by kernel_rfl)) (fun _ _ _ h => h) (Or.inl ⟨by rfl, ?_⟩) ?_ ?_
                    rotate_left
                    ·intro w'
                     go_simp
                     with_reducible rfl
                    rotate_left
                    ·simp only [Act.put, List.setIfInBounds_toArray, List.set_cons_zero, List.set_cons_succ, i64_w, i32_w]
                     rfl
                    refine one_ (i := 21) (N := some 149) #[true, true, true, true, true, true, true, true, true, true, true, true, true, true, true, true, true, true, true, true, true, true, false, true, true, false, false, false, false, false, false, false, false, false, false, false, false, false, false, false, false, false] rfl rfl (one_of HT_.out (by kernel_rfl)) (by decide) (fun K hK => ?_)
                    refine goes_ Try.func21 (by kernel_rfl) rfl #[.slice (some ad158) t102.length co30, .int .i64 t116] (by rfl) rfl rfl (by (try simp only [List.map_toArray, List.map_cons, List.map_nil]); first | done | rfl | (simp only [List.length_drop, List.length_take]; rfl)) ?_
                    with_reducible refine (impl_Owner.calls kj45 _ _ t102 t116 t151 _ ?side1 ?side2 A94.out).mono ?_
                    (case side1 => repeat (first | exact (Kd.R_reads' HO_3.out).2.2 | (with_reducible refine Kd.C_alloc ?_ _) | (with_reducible refine Kd.C_drewN ?_ _) | (with_reducible refine Kd.C_drew ?_)))
                    (case side2 => exact (Kd.R_reads' HO_3.out).2.1)
                    rintro e w113 ⟨v152, rfl, ho0, hb⟩
                    have HS1_ := (hb.cell (World.block_lt_of_cell? _ _ hHeld)).trans hHeld
                    refine ⟨_, rfl, ?_⟩
                    have n0_ := re HO_3 (Kd.R_base ho0) hb
                    have n1_ := Aside0.mk (Kd.R_lower (Kd.R_new' ho0 (Kd.R_lt (by (with_reducible repeat (first | apply Kd.R_alloc | apply Kd.R_drewN | apply Kd.R_drew)); exact HO_3.out))) (below_size (by repeat (first | (with_reducible first | exact HB.out | apply below_alloc | apply pw_below_drewN | apply below_drew1 | refine below_set ?_ GE107.out | refine below_set ?_ GE108.out | refine below_set ?_ GE123.out | refine below_set ?_ GE136.out) | exact HB.out))))
                    have n2_ := bb BK107 hb; have n3_ := bb BK108 hb; have n4_ := bb BK123 hb; have n5_ := bb BK136 hb
                    have n6_ := Aside0.mk (Kd.C_below (by repeat (first | (with_reducible exact HR140.out) | (with_reducible refine Kd.C_alloc ?_ _) | (with_reducible refine Kd.C_drewN ?_ _) | (with_reducible refine Kd.C_drew ?_) | exact HR140.out)) hb)
                    have n7_ := bs4 HB hb GE107 GE108 GE123 GE136; clear HO_3; clear BK107; clear BK108; clear BK123; clear BK136; clear HR140; clear HB; have HO_3 := n0_; have HO153 := n1_; have BK107 := n2_; have BK108 := n3_; have BK123 := n4_; have BK136 := n5_; have HR140 := n6_; have HB := n7_; clear n0_ n1_ n2_ n3_ n4_ n5_ n6_ n7_
                    (try clear hb)
                    (try clear hb2)
                    (try clear hk)
                    (try clear hi)
                    (try clear ho0)
                    obtain ⟨Ao114, co114, eo114⟩ := Kd.R_slice HO153.out
                    (first | subst eo114 | (injection eo114 with f1_ f2_ f3_; have f4_ := f1_.symm; have f5_ := f3_.symm; clear f1_ f2_ f3_; subst f4_; subst f5_))
                    refine hK.out _ _ HS1_ (fun hHeld => ?_)
                    clear hK K
                    refine norm_ (a' := ?_) ?_ ?_
                    rotate_left
                    ·show Act.put _ (some 149) _ = _
                     simp only [Act.put, List.setIfInBounds_toArray, List.set_cons_zero, List.set_cons_succ, i64_w, i32_w]
                     rfl
                    refine pure_ (i := 22) (N := some 150) (v := ?_) (a' := ?_) #[true, true, true, true, true, true, true, true, true, true, true, true, true, true, true, true, true, true, true, true, true, true, true, true, true, false, false, false, false, false, false, false, false, false, false, false, false, false, false, false, false, false] rfl rfl (any_of HT_.out (by kernel_rfl)) (fun _ _ _ h => h) (Or.inl ⟨by rfl, ?_⟩) ?_ ?_
                    rotate_left
                    ·intro w'
                     go_simp
                     with_reducible rfl
                    rotate_left
                    ·simp only [Act.put, List.setIfInBounds_toArray, List.set_cons_zero, List.set_cons_succ, i64_w, i32_w]
                     rfl
                    refine pure_ (i := 25) (N := some 153) (v := ?_) (a' := ?_) #[true, true, true, true, true, true, true, true, true, true, true, true, true, true, true, true, true, true, true, true, true, true, true, true, true, true, false, false, false, false, false, false, false, false, false, false, false, false, false, false, false, false] rfl rfl (any_of HT_.out (by kernel_rfl)) (fun _ _ _ h => h) (Or.inl ⟨by rfl, ?_⟩) ?_ ?_
                    rotate_left
                    ·intro w'
                     go_simp
                     with_reducible rfl
                    rotate_left
                    ·simp only [Act.put, List.setIfInBounds_toArray, List.set_cons_zero, List.set_cons_succ, i64_w, i32_w]
                     rfl
                    refine pure_ (i := 26) (N := some 154) (v := ?_) (a' := ?_) #[true, true, true, true, true, true, true, true, true, true, true, true, true, true, true, true, true, true, true, true, true, true, true, true, true, true, true, false, false, false, false, false, false, false, false, false, false, false, false, false, false, false] rfl rfl (any_of HT_.out (by kernel_rfl)) (fun _ _ _ h => h) (Or.inl ⟨by rfl, ?_⟩) ?_ ?_
                    rotate_left
                    ·intro w'
                     go_simp
                     with_reducible rfl
                    rotate_left
                    ·simp only [Act.put, List.setIfInBounds_toArray, List.set_cons_zero, List.set_cons_succ, i64_w, i32_w]
                     rfl
                    refine pure_ (i := 27) (N := some 155) (v := ?_) (a' := ?_) #[true, true, true, true, true, true, true, true, true, true, true, true, true, true, true, true, true, true, true, true, true, true, true, true, true, true, true, true, false, false, false, false, false, false, false, false, false, false, false, false, false, false] rfl rfl (any_of HT_.out (by kernel_rfl)) (fun _ _ _ h => h) (Or.inl ⟨by rfl, ?_⟩) ?_ ?_
                    rotate_left
                    ·intro w'
                     go_simp
                     with_reducible rfl
                    rotate_left
                    ·simp only [Act.put, List.setIfInBounds_toArray, List.set_cons_zero, List.set_cons_succ, i64_w, i32_w]
                     rfl
                    refine pure_ (i := 28) (N := some 156) (v := ?_) (a' := ?_) #[true, true, true, true, true, true, true, true, true, true, true, true, true, true, true, true, true, true, true, true, true, true, true, true, true, true, true, true, true, false, false, false, false, false, false, false, false, false, false, false, false, false] rfl rfl (any_of HT_.out (by kernel_rfl)) (fun _ _ _ h => h) (Or.inl ⟨by rfl, ?_⟩) ?_ ?_
                    rotate_left
                    ·intro w'
                     go_simp
                     with_reducible rfl
                    rotate_left
                    ·simp only [Act.put, List.setIfInBounds_toArray, List.set_cons_zero, List.set_cons_succ, i64_w, i32_w]
                     rfl
                    refine pure_ (i := 29) (N := some 157) (v := ?_) (a' := ?_) #[true, true, true, true, true, true, true, true, true, true, true, true, true, true, true, true, true, true, true, true, true, true, true, true, true, true, true, true, true, true, false, false, false, false, false, false, false, false, false, false, false, false] rfl rfl (any_of HT_.out (by kernel_rfl)) (fun _ _ _ h => h) (Or.inl ⟨by rfl, ?_⟩) ?_ ?_
                    rotate_left
                    ·intro w'
                     go_simp
                     with_reducible rfl
                    rotate_left
                    ·simp only [Act.put, List.setIfInBounds_toArray, List.set_cons_zero, List.set_cons_succ, i64_w, i32_w]
                     rfl
                    refine pure_ (i := 33) (N := some 161) (v := ?_) (a' := ?_) #[true, true, true, true, true, true, true, true, true, true, true, true, true, true, true, true, true, true, true, true, true, true, true, true, true, true, true, true, true, true, false, false, false, true, false, false, false, false, false, false, false, false] rfl rfl (any_of HT_.out (by kernel_rfl)) (fun _ _ _ h => h) (Or.inl ⟨by rfl, ?_⟩) ?_ ?_
                    rotate_left
                    ·intro w'
                     go_simp
                     with_reducible rfl
                    rotate_left
                    ·simp only [Act.put, List.setIfInBounds_toArray, List.set_cons_zero, List.set_cons_succ, i64_w, i32_w]
                     rfl
                    refine pure_ (i := 34) (N := some 162) (v := ?_) (a' := ?_) #[true, true, true, true, true, true, true, true, true, true, true, true, true, true, true, true, true, true, true, true, true, true, true, true, true, true, true, true, true, true, false, false, false, true, true, false, false, false, false, false, false, false] rfl rfl (any_of HT_.out (by kernel_rfl)) (fun _ _ _ h => h) (Or.inl ⟨by rfl, ?_⟩) ?_ ?_
                    rotate_left
                    ·intro w'
                     go_simp
                     with_reducible rfl
                    rotate_left
                    ·simp only [Act.put, List.setIfInBounds_toArray, List.set_cons_zero, List.set_cons_succ, i64_w, i32_w]
                     rfl
                    refine pure_ (i := 36) (N := some 164) (v := ?_) (a' := ?_) #[true, true, true, true, true, true, true, true, true, true, true, true, true, true, true, true, true, true, true, true, true, true, true, true, true, true, true, true, true, true, false, false, false, true, true, false, true, false, false, false, false, false] rfl rfl (any_of HT_.out (by kernel_rfl)) (fun _ _ _ h => h) (Or.inl ⟨by rfl, ?_⟩) ?_ ?_
                    rotate_left
                    ·intro w'
                     go_simp
                     with_reducible rfl
                    rotate_left
                    ·simp only [Act.put, List.setIfInBounds_toArray, List.set_cons_zero, List.set_cons_succ, i64_w, i32_w]
                     rfl
                    refine pure_ (i := 37) (N := some 165) (v := ?_) (a' := ?_) #[true, true, true, true, true, true, true, true, true, true, true, true, true, true, true, true, true, true, true, true, true, true, true, true, true, true, true, true, true, true, false, false, false, true, true, false, true, true, false, false, false, false] rfl rfl (any_of HT_.out (by kernel_rfl)) (fun _ _ _ h => h) (Or.inl ⟨by rfl, ?_⟩) ?_ ?_
                    rotate_left
                    ·intro w'
                     go_simp
                     with_reducible rfl
                    rotate_left
                    ·simp only [Act.put, List.setIfInBounds_toArray, List.set_cons_zero, List.set_cons_succ, i64_w, i32_w]
                     rfl
                    refine take_ (i := 35) (N := some 163) (v := ?_) (a' := ?_) #[true, true, true, true, true, true, true, true, true, true, true, true, true, true, true, true, true, true, true, true, true, true, true, true, true, true, true, true, true, true, false, false, false, true, true, true, true, true, false, false, false, false] rfl rfl (take_ofW HT_.out HW_.out (by kernel_rfl)) (fun _ _ _ h => h) (Or.inl ⟨by rfl, ?_⟩) hHeld ?_ ?_
                    rotate_left
                    ·intro w' s1
                     go_simp
                     with_reducible rfl
                    rotate_left
                    ·simp only [Act.put, List.setIfInBounds_toArray, List.set_cons_zero, List.set_cons_succ, i64_w, i32_w]
                     rfl
                    refine pure_ (i := 38) (N := some 166) (v := ?_) (a' := ?_) #[true, true, true, true, true, true, true, true, true, true, true, true, true, true, true, true, true, true, true, true, true, true, true, true, true, true, true, true, true, true, false, false, false, true, true, true, true, true, true, false, false, false] rfl rfl (any_of HT_.out (by kernel_rfl)) (fun _ _ _ h => h) (Or.inl ⟨by rfl, ?_⟩) ?_ ?_
                    rotate_left
                    ·intro w'
                     go_simp
                     with_reducible rfl
                    rotate_left
                    ·simp only [Act.put, List.setIfInBounds_toArray, List.set_cons_zero, List.set_cons_succ, i64_w, i32_w]
                     rfl
                    refine one_ (i := 30) (N := some 158) #[true, true, true, true, true, true, true, true, true, true, true, true, true, true, true, true, true, true, true, true, true, true, true, true, true, true, true, true, true, true, true, false, false, true, true, true, true, true, true, false, false, false] rfl rfl (one_of HT_.out (by kernel_rfl)) (by decide) (fun K hK => ?_)
                    refine goes_ Try.func21 (by kernel_rfl) rfl #[.slice (some ad158) t102.length co30, .int .i64 t116] (by rfl) rfl rfl (by (try simp only [List.map_toArray, List.map_cons, List.map_nil]); first | done | rfl | (simp only [List.length_drop, List.length_take]; rfl)) ?_
                    with_reducible refine (impl_Owner.calls kj45 _ _ t102 t116 t154 _ ?side1 ?side2 A96.out).mono ?_
                    (case side1 => repeat (first | exact (Kd.R_reads' HO_3.out).2.2 | (with_reducible refine Kd.C_alloc ?_ _) | (with_reducible refine Kd.C_drewN ?_ _) | (with_reducible refine Kd.C_drew ?_)))
                    (case side2 => exact (Kd.R_reads' HO_3.out).2.1)
                    rintro e w115 ⟨v155, rfl, ho0, hb⟩
                    have HS1_ := (hb.cell (World.block_lt_of_cell? _ _ hHeld)).trans hHeld
                    refine ⟨_, rfl, ?_⟩
                    have n0_ := re HO_3 (Kd.R_base ho0) hb; have n1_ := re HO153 (Kd.R_base ho0) hb
                    have n2_ := Aside0.mk (Kd.R_lower (Kd.R_new' (Kd.R_new' ho0 (Kd.R_lt (by (with_reducible repeat (first | apply Kd.R_alloc | apply Kd.R_drewN | apply Kd.R_drew)); exact HO_3.out))) (Kd.R_lt (by (with_reducible repeat (first | apply Kd.R_alloc | apply Kd.R_drewN | apply Kd.R_drew)); exact HO153.out))) (below_size (by repeat (first | (with_reducible first | exact HB.out | apply below_alloc | apply pw_below_drewN | apply below_drew1 | refine below_set ?_ GE107.out | refine below_set ?_ GE108.out | refine below_set ?_ GE123.out | refine below_set ?_ GE136.out) | exact HB.out))))
                    have n3_ := bb BK107 hb; have n4_ := bb BK108 hb; have n5_ := bb BK123 hb; have n6_ := bb BK136 hb
                    have n7_ := Aside0.mk (Kd.C_below (by repeat (first | (with_reducible exact HR140.out) | (with_reducible refine Kd.C_alloc ?_ _) | (with_reducible refine Kd.C_drewN ?_ _) | (with_reducible refine Kd.C_drew ?_) | exact HR140.out)) hb)
                    have n8_ := bs4 HB hb GE107 GE108 GE123 GE136; clear HO_3; clear HO153; clear BK107; clear BK108; clear BK123; clear BK136; clear HR140; clear HB; have HO_3 := n0_; have HO153 := n1_; have HO156 := n2_; have BK107 := n3_; have BK108 := n4_; have BK123 := n5_; have BK136 := n6_; have HR140 := n7_; have HB := n8_; clear n0_ n1_ n2_ n3_ n4_ n5_ n6_ n7_ n8_
                    (try clear hb)
                    (try clear hb2)
                    (try clear hk)
                    (try clear hi)
                    (try clear ho0)
                    obtain ⟨Ao116, co116, eo116⟩ := Kd.R_slice HO156.out
                    (first | subst eo116 | (injection eo116 with f1_ f2_ f3_; have f4_ := f1_.symm; have f5_ := f3_.symm; clear f1_ f2_ f3_; subst f4_; subst f5_))
                    have p157 : 0 ≤ (0 : Int) := (by omega)
                    have q157 : 0 < (t154.length : Int) := of_decide_eq_true (by first | (with_reducible assumption) | assumption)
                    obtain ⟨ad157, e157, hx157_0⟩ := Kd.at_bool (Kd.R_reads' HO156.out).2.2 0 p157 q157
                    cases e157
                    have qi157 : (0 < t154.length) = True := eq_true (by omega)
                    (try rw [show ((0 : Int)).toNat = 0 from rfl] at hx157_0)
                    (try rw [Addr.add_zero'] at hx157_0)
                    replace p157 := eq_true p157
                    replace q157 := eq_true q157
                    refine hK.out _ _ HS1_ (fun hHeld => ?_)
                    clear hK K
                    refine norm_ (a' := ?_) ?_ ?_
                    rotate_left
                    ·show Act.put _ (some 158) _ = _
                     simp only [Act.put, List.setIfInBounds_toArray, List.set_cons_zero, List.set_cons_succ, i64_w, i32_w]
                     rfl
                    refine pure_ (i := 31) (N := some 159) (v := ?_) (a' := ?_) #[true, true, true, true, true, true, true, true, true, true, true, true, true, true, true, true, true, true, true, true, true, true, true, true, true, true, true, true, true, true, true, true, false, true, true, true, true, true, true, false, false, false] rfl rfl (any_of HT_.out (by kernel_rfl)) (fun _ _ _ h => h) (Or.inl ⟨by rfl, ?_⟩) ?_ ?_
                    rotate_left
                    ·intro w'
                     go_simp
                     with_reducible rfl
                    rotate_left
                    ·simp only [Act.put, List.setIfInBounds_toArray, List.set_cons_zero, List.set_cons_succ, i64_w, i32_w]
                     rfl
                    refine one_ (i := 32) (N := some 160) #[true, true, true, true, true, true, true, true, true, true, true, true, true, true, true, true, true, true, true, true, true, true, true, true, true, true, true, true, true, true, true, true, true, true, true, true, true, true, true, false, false, false] rfl rfl (one_of HT_.out (by kernel_rfl)) (by decide) (fun K hK => ?_)
                    refine value_ (w1 := ?_) (v := ?_) (by rfl) rfl ?_ ?_
                    rotate_left 2
                    ·go_simp
                     constructor
                     ·rfl
                     ·rfl
                    refine hK.out _ _ hHeld (fun hHeld => ?_)
                    clear hK K
                    refine norm_ (a' := ?_) ?_ ?_
                    rotate_left
                    ·show Act.put _ (some 160) _ = _
                     simp only [Act.put, List.setIfInBounds_toArray, List.set_cons_zero, List.set_cons_succ, i64_w, i32_w]
                     rfl
                    refine pure_ (i := 39) (N := some 167) (v := ?_) (a' := ?_) #[true, true, true, true, true, true, true, true, true, true, true, true, true, true, true, true, true, true, true, true, true, true, true, true, true, true, true, true, true, true, true, true, true, true, true, true, true, true, true, true, false, false] rfl rfl (any_of HT_.out (by kernel_rfl)) (fun _ _ _ h => h) (Or.inl ⟨by rfl, ?_⟩) ?_ ?_
                    rotate_left
                    ·intro w'
                     go_simp
                     with_reducible rfl
                    rotate_left
                    ·simp only [Act.put, List.setIfInBounds_toArray, List.set_cons_zero, List.set_cons_succ, i64_w, i32_w]
                     rfl
                    refine pure_ (i := 40) (N := some 168) (v := ?_) (a' := ?_) #[true, true, true, true, true, true, true, true, true, true, true, true, true, true, true, true, true, true, true, true, true, true, true, true, true, true, true, true, true, true, true, true, true, true, true, true, true, true, true, true, true, false] rfl rfl (any_of HT_.out (by kernel_rfl)) (fun _ _ _ h => h) (Or.inl ⟨by rfl, ?_⟩) ?_ ?_
                    rotate_left
                    ·intro w'
                     go_simp
                     with_reducible rfl
                    rotate_left
                    ·simp only [Act.put, List.setIfInBounds_toArray, List.set_cons_zero, List.set_cons_succ, i64_w, i32_w]
                     rfl
                    refine pure_ (i := 41) (N := some 2) (v := ?_) (a' := ?_) #[true, true, true, true, true, true, true, true, true, true, true, true, true, true, true, true, true, true, true, true, true, true, true, true, true, true, true, true, true, true, true, true, true, true, true, true, true, true, true, true, true, true] rfl rfl (any_of HT_.out (by kernel_rfl)) (fun _ _ _ h => h) (Or.inl ⟨by rfl, ?_⟩) ?_ ?_
                    rotate_left
                    ·intro w'
                     go_simp
                     with_reducible rfl
                    rotate_left
                    ·simp only [Act.put, List.setIfInBounds_toArray, List.set_cons_zero, List.set_cons_succ, i64_w, i32_w]
                     rfl
                    refine done_ (done_of HT_.out (by kernel_rfl)) ?_
                    try go_wp2
                    go_ret
                    exact ⟨by first | rfl | (simp [errW_none, errW_some] <;> rfl) | (simp [*, errW_none, errW_some] <;> rfl) | (simp [errW_none, errW_some, show ¬ t154 = [] from by intro h_; rw [h_] at c97b0; simp at c97b0, show ¬ t102 = [] from by intro h_; rw [h_] at c98b0; simp at c98b0]; done) | (simp [*, show ¬ t154 = [] from by intro h_; rw [h_] at c97b0; simp at c97b0, show ¬ t102 = [] from by intro h_; rw [h_] at c98b0; simp at c98b0]; done) | (simp [errW_none, errW_some, show ¬ t154 = [] from by intro h_; rw [h_] at c97b0; simp at c97b0, show ¬ t102 = [] from by intro h_; rw [h_] at c98b0; simp at c98b0] <;> rfl), by repeat (first | (with_reducible first | exact HB.out | apply below_alloc | apply pw_below_drewN | apply below_drew1 | refine below_set ?_ GE107.out | refine below_set ?_ GE108.out | refine below_set ?_ GE123.out | refine below_set ?_ GE136.out) | exact HB.out)⟩
                   ·rw [if_neg c98] at H
                    exact absurd H (by simp)
                  ·rw [if_neg c97] at H
                   exact absurd H (by simp)
                 ·rw [if_neg c95] at H
                  have c95b0 : ((t151.length : Int) == (t102.length : Int)) = false := beq_eq_false_iff_ne.mpr c95; have c95b1 : ((t151.length : Int) != (t102.length : Int)) = true := bne_iff_ne.mpr c95
                  have c95b2 : (t151.length == t102.length) = false := by first | simpa using c95 | (simp at c95 ⊢; omega)
                  exact absurd ((Option.some.inj H).trans HT.out) (by decide)
               ·rw [if_neg c68] at H
                have c68b0 : (t128 == t116) = false := beq_eq_false_iff_ne.mpr c68; have c68b1 : (t128 != t116) = true := bne_iff_ne.mpr c68
                exact absurd ((Option.some.inj H).trans HT.out) (by decide)
              ·replace c67 := Bool.eq_false_iff.mpr c67
               subst c67
               have H1 : (some false) = some r := by rw [if_neg (show ¬ (false = true) by decide)] at H; exact H
               clear H; have H := H1; clear H1
               exact absurd ((Option.some.inj H).trans HT.out) (by decide)
             ·rw [if_neg c65] at H
              exact absurd H (by simp)
          ·rw [if_neg c44] at H
           exact absurd H (by simp)
  ·rw [if_neg c5] at H
   exact absurd H (by simp)
end Go.Proofs.Ythipjoioicmcnaa.G
