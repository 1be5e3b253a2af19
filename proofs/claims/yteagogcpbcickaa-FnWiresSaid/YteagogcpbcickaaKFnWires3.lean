-- texts of this session, merged by a program of it (wip/gen/pack.py)
import Derived.Test.YteagogcpbcickaaKFnWires2
import Derived.Laws.BitsLemmas
import Derived.Shelf.Strings.Search3
import Derived.Shelf.Strings.Count
import Derived.Test.YteagogcpbcickaaProg
import Derived.Lib.IndexAny
import Derived.Test.YteagogcpbcickaaKFnWires1
namespace Go.Proofs.Yteagogcpbcickaa.G
open Go.RowKit Go.Proofs.YteagogcpbcickaaW.PrintWords Go.Proofs.YteagogcpbcickaaW.PrintLast Go.Proofs.YteagogcpbcickaaW.PrintMore
attribute [local go_sem] max2_int min2_int max_two min_two max_three min_three max_four min_four
set_option linter.unusedVariables false
set_option linter.unusedSimpArgs false
open Go.Proofs.Yteagogcpbcickaa.Mp Go.Proofs.Yteagogcpbcickaa.Fv
def atMap (ins : Int) (L : List S79) : List (S79 × Int) := ((List.range L.length).map fun i : Nat => (rd_T79 L (i : Int), 2 * (ins + 1 + (i : Int)))).reverse
theorem rd_app (L : List S79) (x : S79) (i : Nat) (hi : i < L.length) : rd_T79 (L ++ [x]) i = rd_T79 L i := by
  simp [rd_T79, List.getD_eq_getElem?_getD, List.getElem?_append_left hi]
theorem rd_last (L : List S79) (x : S79) : rd_T79 (L ++ [x]) (L.length : Nat) = x := by
  simp [rd_T79, List.getD_eq_getElem?_getD]
theorem atMap_app (ins : Int) (L : List S79) (x : S79) : atMap ins (L ++ [x]) = (x, 2 * (ins + 1 + L.length)) :: atMap ins L := by
  unfold atMap
  rw [List.length_append, List.length_singleton, List.range_succ, List.map_append, List.reverse_append, List.map_singleton, List.reverse_singleton, List.singleton_append, rd_last]
  congr 2
  apply List.map_congr_left
  intro i hi
  rw [rd_app L x i (List.mem_range.1 hi)]
theorem atMap_length (ins : Int) (L : List S79) : (atMap ins L).length = L.length := by simp [atMap]
structure IsB (w : World) (base g : Nat) (ins : Int) (L : List S79) (A : Option Addr) (c mb : Nat) : Prop where
  blk : w.heap[g]? = some (.cells #[.int .i64 ins, .slice A L.length c, .map (some mb)] 104 (0, 0))
  row : Kd.R k79 79 w base (fun _ => True) (.slice A L.length c) L
  map : IsMp Try.prog 79 3 encAnd wfAnd w mb (atMap ins L)
  geg : base ≤ g
  gem : base ≤ mb
def IsBx (w : World) (base g : Nat) (ins : Int) (L : List S79) : Prop := ∃ A c mb, IsB w base g ins L A c mb
def Fr (g : Nat) (w w' : World) : Prop := ∀ k cs T, k ≠ g → T ≠ 79 → w.heap[k]? = some (.cells cs T (0, 0)) → w'.heap[k]? = some (.cells cs T (0, 0))
def andR (ins : Int) (L : List S79) (x y : Int) : List S79 × Int :=
  if x = 0 then (L, 0) else if y = 0 then (L, 0) else if x = Go.bits .xor .i64 y 1 then (L, 0) else if x = 1 then (L, y) else if y = 1 then (L, x) else if x = y then (L, x)
  else if mhas (atMap ins L) ⟨min x y, max x y⟩ = true then (L, mget (atMap ins L) ⟨min x y, max x y⟩)
  else if 3000 ≤ L.length then (L, -1) else (L ++ [⟨min x y, max x y⟩], 2 * (ins + 1 + L.length))
theorem Fr.refl (g : Nat) (w : World) : Fr g w w := fun _ _ _ _ _ h => h
set_option maxHeartbeats 8000000 in
set_option maxRecDepth 100000 in
theorem builder_and.calls (w0 : World) (g : Nat) (ins : Int) (L : List S79) (x y : Int) (w : World) (hI : IsBx w w0.heap.size g ins L) (hB : Below w0.heap.size w0 w)
    (hx : 0 ≤ x ∧ x ≤ 1048575) (hy : 0 ≤ y ∧ y ≤ 1048575) (hin : 0 ≤ ins ∧ ins ≤ 1000) (hL : L.length ≤ 3000) :
    Calls Try.prog 74 #[.pointer (some ⟨g, 0, none⟩), .int .i64 x, .int .i64 y] w fun e w' => e = .returned (.int .i64 (andR ins L x y).2) ∧ IsBx w' w0.heap.size g ins (andR ins L x y).1 ∧ Below w0.heap.size w0 w' ∧ Fr g w w' := by
  have HI := Aside0.mk hI
  have HB := Aside0.mk hB
  have HX := Aside0.mk hx
  have HY := Aside0.mk hy
  clear hI hB hx hy
  have hE : andR ins L x y = andR ins L x y := rfl
  conv at hE => rhs; unfold andR
  by_cases c1 : x = 0
  · rw [if_pos c1] at hE
    rw [hE]
    clear hE
    have d1 : (x == 0) = true := beq_iff_eq.2 c1
    clear c1
    go_enter Try.func74, Try.ntmps74
    go_wp2
    go_ret
    exact ⟨rfl, HI.out, HB.out, Fr.refl _ _⟩
  rw [if_neg c1] at hE
  have d1 : (x == 0) = false := beq_eq_false_iff_ne.2 c1
  by_cases c2 : y = 0
  · rw [if_pos c2] at hE
    rw [hE]
    clear hE
    have d2 : (y == 0) = true := beq_iff_eq.2 c2
    clear c1 c2
    go_enter Try.func74, Try.ntmps74
    go_wp2
    go_ret
    exact ⟨rfl, HI.out, HB.out, Fr.refl _ _⟩
  rw [if_neg c2] at hE
  have d2 : (y == 0) = false := beq_eq_false_iff_ne.2 c2
  by_cases c3 : x = Go.bits .xor .i64 y 1
  · rw [if_pos c3] at hE
    rw [hE]
    clear hE
    have d3 : (x == Go.bits .xor .i64 y 1) = true := beq_iff_eq.2 c3
    clear c1 c2 c3
    go_enter Try.func74, Try.ntmps74
    go_wp2
    go_ret
    exact ⟨rfl, HI.out, HB.out, Fr.refl _ _⟩
  rw [if_neg c3] at hE
  have d3 : (x == Go.bits .xor .i64 y 1) = false := beq_eq_false_iff_ne.2 c3
  by_cases c4 : x = 1
  · rw [if_pos c4] at hE
    rw [hE]
    clear hE
    have d4 : (x == 1) = true := beq_iff_eq.2 c4
    clear c1 c2 c3 c4
    go_enter Try.func74, Try.ntmps74
    go_wp2
    go_ret
    exact ⟨rfl, HI.out, HB.out, Fr.refl _ _⟩
  rw [if_neg c4] at hE
  have d4 : (x == 1) = false := beq_eq_false_iff_ne.2 c4
  by_cases c5 : y = 1
  · rw [if_pos c5] at hE
    rw [hE]
    clear hE
    have d5 : (y == 1) = true := beq_iff_eq.2 c5
    clear c1 c2 c3 c4 c5
    go_enter Try.func74, Try.ntmps74
    go_wp2
    go_ret
    exact ⟨rfl, HI.out, HB.out, Fr.refl _ _⟩
  rw [if_neg c5] at hE
  have d5 : (y == 1) = false := beq_eq_false_iff_ne.2 c5
  by_cases c6 : x = y
  · rw [if_pos c6] at hE
    rw [hE]
    clear hE
    have d6 : (x == y) = true := beq_iff_eq.2 c6
    clear c1 c2 c3 c4 c5 c6
    go_enter Try.func74, Try.ntmps74
    go_wp2
    go_ret
    exact ⟨rfl, HI.out, HB.out, Fr.refl _ _⟩
  rw [if_neg c6] at hE
  have d6 : (x == y) = false := beq_eq_false_iff_ne.2 c6
  clear c1 c2 c3 c4 c5 c6
  generalize andR ins L x y = r at hE ⊢
  obtain ⟨A, c, mb, hIB⟩ := HI.out
  have HR := Aside0.mk hIB.row
  have HM := Aside0.mk hIB.map
  have BG := Aside0.mk hIB.blk
  have GG := Aside0.mk hIB.geg
  have GM := Aside0.mk hIB.gem
  clear hIB HI
  have hcg0 : w.cell? ⟨g, 0, none⟩ = some (.int .i64 ins) := (blk_cell BG.out 0).trans rfl
  have hcg1 : w.cell? ⟨g, 1, none⟩ = some (.slice A L.length c) := (blk_cell BG.out 1).trans rfl
  have hcg2 : w.cell? ⟨g, 2, none⟩ = some (.map (some mb)) := (blk_cell BG.out 2).trans rfl
  obtain ⟨lo, hlo, hlo'⟩ : ∃ lo, (if y < x then y else x) = lo ∧ min x y = lo := ⟨_, rfl, by split <;> omega⟩
  obtain ⟨hi, hhi, hhi'⟩ : ∃ hi, (if x < y then y else x) = hi ∧ max x y = hi := ⟨_, rfl, by split <;> omega⟩
  have hlh : Aside0 ((0 ≤ lo ∧ lo ≤ 1048575) ∧ 0 ≤ hi ∧ hi ≤ 1048575) := ⟨by have := HX.out; have := HY.out; omega⟩
  rw [hlo', hhi'] at hE
  have HE := Aside0.mk hE
  clear hlo' hhi' hE
  have hwf : Aside0 (wfAnd ⟨lo, hi⟩) := ⟨⟨WalkArith.wf_i64 (show -9223372036854775808 ≤ lo ∧ lo ≤ 9223372036854775807 by have := hlh.out; omega), WalkArith.wf_i64 (show -9223372036854775808 ≤ hi ∧ hi ≤ 9223372036854775807 by have := hlh.out; omega)⟩⟩
  go_enter Try.func74, Try.ntmps74
  go_upto_region 8 with (first | ((with_reducible refine gate_dst (N := 7) rfl ?_); refine box_event ?hg (N := 7) ?hd (cs := #[.int .i64 0, .int .i64 0]) (t := 79) ?hr ?_; (case hd => rfl); (case hg => rfl); (case hr => first | (go_simp; done) | (go_simp; rfl)); intro gk hg w3 hbox hb; have BK := Aside0.mk hbox; have BL := Aside0.mk hb; have GK := Aside0.mk (show w.heap.size ≤ gk by rw [hg]; exact Nat.le_refl _); clear hg hbox hb; have hck0 : w3.cell? ⟨gk, 0, none⟩ = some (.int .i64 0) := (blk_cell BK.out 0).trans rfl; have hck1 : w3.cell? ⟨gk, 1, none⟩ = some (.int .i64 0) := (blk_cell BK.out 1).trans rfl; have hfk0 := blk_frozen BK.out 0; have hfk1 := blk_frozen BK.out 1))
  have BW4 : Aside0 (Below w.heap.size w (((w3.setCell ⟨gk, 0, none⟩ (.int .i64 lo)).setCell ⟨gk, 1, none⟩ (.int .i64 hi)).drew)) := ⟨below_drew1 (below_set (below_set BL.out GK.out) GK.out)⟩
  have BK4 : Aside0 ((((w3.setCell ⟨gk, 0, none⟩ (.int .i64 lo)).setCell ⟨gk, 1, none⟩ (.int .i64 hi)).drew).heap[gk]? = some (.cells #[.int .i64 lo, .int .i64 hi] 79 (0, 0))) := ⟨blk_drew (blk_put (cs := #[.int .i64 lo, .int .i64 0]) (blk_put (cs := #[.int .i64 0, .int .i64 0]) BK.out 0 _ rfl) 1 _ rfl)⟩
  have BG4 := Aside0.mk (blk_below BG.out BW4.out)
  have HM4 := Aside0.mk (HM.out.below BW4.out HM.out.lt)
  clear hck0 hck1 hfk0 hfk1
  refine start_ (n := 11) (S := fun w' => w'.cell? ⟨g, 2, none⟩ = some (.map (some mb)) ∧ w'.cell? ⟨gk, 0, none⟩ = some (.int .i64 lo) ∧ w'.cell? ⟨gk, 1, none⟩ = some (.int .i64 hi)) (ds := []) #[false, false, false, false, false, false, false, false, false, false, false] (by kernel_rfl) rfl rfl ⟨(blk_cell BG4.out 2).trans rfl, (blk_cell BK4.out 0).trans rfl, (blk_cell BK4.out 1).trans rfl⟩ (fun hHeld => ?_)
  refine pure_ (i := 0) (N := some 45) (v := ?_) (a' := ?_) #[true, false, false, false, false, false, false, false, false, false, false] rfl rfl (by kernel_rfl) (fun _ _ _ h => h) (Or.inl ⟨by rfl, ?_⟩) ?_ ?_
  rotate_left
  · intro w'
    go_simp
    with_reducible rfl
  rotate_left
  · simp only [Act.put, List.setIfInBounds_toArray, List.set_cons_zero, List.set_cons_succ, i64_w, i32_w]
    rfl
  refine pure_ (i := 1) (N := some 46) (v := ?_) (a' := ?_) #[true, true, false, false, false, false, false, false, false, false, false] rfl rfl (by kernel_rfl) (fun _ _ _ h => h) (Or.inl ⟨by rfl, ?_⟩) ?_ ?_
  rotate_left
  · intro w'
    go_simp
    with_reducible rfl
  rotate_left
  · simp only [Act.put, List.setIfInBounds_toArray, List.set_cons_zero, List.set_cons_succ, i64_w, i32_w]
    rfl
  refine pure_ (i := 2) (N := some 47) (v := ?_) (a' := ?_) #[true, true, true, false, false, false, false, false, false, false, false] rfl rfl (by kernel_rfl) (fun _ _ _ h => h) (Or.inl ⟨by rfl, ?_⟩) ?_ ?_
  rotate_left
  · intro w'
    go_simp
    with_reducible rfl
  rotate_left
  · simp only [Act.put, List.setIfInBounds_toArray, List.set_cons_zero, List.set_cons_succ, i64_w, i32_w]
    rfl
  refine take_ (i := 3) (N := some 48) (v := ?_) (a' := ?_) #[true, true, true, true, false, false, false, false, false, false, false] rfl rfl (by kernel_rfl) (fun _ _ _ h => h) (Or.inl ⟨by rfl, ?_⟩) hHeld ?_ ?_
  rotate_left
  · rintro w' ⟨s0, s1, s2⟩
    go_simp
    with_reducible rfl
  rotate_left
  · simp only [Act.put, List.setIfInBounds_toArray, List.set_cons_zero, List.set_cons_succ, i64_w, i32_w]
    rfl
  refine take_ (i := 4) (N := some 49) (v := ?_) (a' := ?_) #[true, true, true, true, true, false, false, false, false, false, false] rfl rfl (by kernel_rfl) (fun _ _ _ h => h) (Or.inl ⟨by rfl, ?_⟩) hHeld ?_ ?_
  rotate_left
  · rintro w' ⟨s0, s1, s2⟩
    go_simp
    with_reducible rfl
  rotate_left
  · simp only [Act.put, List.setIfInBounds_toArray, List.set_cons_zero, List.set_cons_succ, i64_w, i32_w]
    rfl
  refine one_ (i := 5) (N := some 50) #[true, true, true, true, true, true, false, false, false, false, false] rfl rfl (by kernel_rfl) (by decide) (fun K hK => ?_)
  refine mget_ok_step (κ := S79) (P := Try.prog) (t := 81) (k := 79) (e := 3) (m := atMap ins L) (by rfl) rfl (.tmp 48) (.tmp 49) rfl andCodec Try.underlying81 Try.underlying3 zeroInt HM4.out rfl ⟨lo, hi⟩ rfl hwf.out ?_
  refine hK.out _ _ ⟨hHeld.1, hHeld.2.1, hHeld.2.2⟩ (fun hHeld => ?_)
  clear hK K
  refine norm_ (a' := ?_) ?_ ?_
  rotate_left
  · show Act.put _ (some 50) _ = _
    simp only [Act.put, List.setIfInBounds_toArray, List.set_cons_zero, List.set_cons_succ, i64_w, i32_w]
    rfl
  refine pure_ (i := 6) (N := some 44) (v := ?_) (a' := ?_) #[true, true, true, true, true, true, true, false, false, false, false] rfl rfl (by kernel_rfl) (fun _ _ _ h => h) (Or.inl ⟨by rfl, ?_⟩) ?_ ?_
  rotate_left
  · intro w'
    go_simp
    with_reducible rfl
  rotate_left
  · simp only [Act.put, List.setIfInBounds_toArray, List.set_cons_zero, List.set_cons_succ, i64_w, i32_w]
    rfl
  refine pure_ (i := 7) (N := some 51) (v := ?_) (a' := ?_) #[true, true, true, true, true, true, true, true, false, false, false] rfl rfl (by kernel_rfl) (fun _ _ _ h => h) (Or.inl ⟨by rfl, ?_⟩) ?_ ?_
  rotate_left
  · intro w'
    go_simp
    with_reducible rfl
  rotate_left
  · simp only [Act.put, List.setIfInBounds_toArray, List.set_cons_zero, List.set_cons_succ, i64_w, i32_w]
    rfl
  refine pure_ (i := 8) (N := some 52) (v := ?_) (a' := ?_) #[true, true, true, true, true, true, true, true, true, false, false] rfl rfl (by kernel_rfl) (fun _ _ _ h => h) (Or.inl ⟨by rfl, ?_⟩) ?_ ?_
  rotate_left
  · intro w'
    go_simp
    with_reducible rfl
  rotate_left
  · simp only [Act.put, List.setIfInBounds_toArray, List.set_cons_zero, List.set_cons_succ, i64_w, i32_w]
    rfl
  refine pure_ (i := 9) (N := some 8) (v := ?_) (a' := ?_) #[true, true, true, true, true, true, true, true, true, true, false] rfl rfl (by kernel_rfl) (fun _ _ _ h => h) (Or.inl ⟨by rfl, ?_⟩) ?_ ?_
  rotate_left
  · intro w'
    go_simp
    with_reducible rfl
  rotate_left
  · simp only [Act.put, List.setIfInBounds_toArray, List.set_cons_zero, List.set_cons_succ, i64_w, i32_w]
    rfl
  refine pure_ (i := 10) (N := some 9) (v := ?_) (a' := ?_) #[true, true, true, true, true, true, true, true, true, true, true] rfl rfl (by kernel_rfl) (fun _ _ _ h => h) (Or.inl ⟨by rfl, ?_⟩) ?_ ?_
  rotate_left
  · intro w'
    go_simp
    with_reducible rfl
  rotate_left
  · simp only [Act.put, List.setIfInBounds_toArray, List.set_cons_zero, List.set_cons_succ, i64_w, i32_w]
    rfl
  refine done_ (by kernel_rfl) ?_

  clear hHeld
  clear hHeld
  generalize (((w3.setCell ⟨gk, 0, none⟩ (.int .i64 lo)).setCell ⟨gk, 1, none⟩ (.int .i64 hi)).drew) = w4 at BW4 BK4 BG4 HM4 ⊢
  have HR4 := Aside0.mk (Kd.R_below HR.out BW4.out)
  have HB4 := Aside0.mk (below_step HB.out BW4.out)
  have F4 : Aside0 (Fr g w w4) := ⟨fun k cs T _ _ h => blk_below h BW4.out⟩
  have hltg := Aside0.mk (blk_lt BG.out)
  have hltr := Aside0.mk (Kd.R_lt HR.out)
  have hltm := Aside0.mk HM.out.lt
  clear HR HM BG hcg0 hcg1 hcg2 HB BL BK
  have hcg0 : w4.cell? ⟨g, 0, none⟩ = some (.int .i64 ins) := (blk_cell BG4.out 0).trans rfl
  have hcg1 : w4.cell? ⟨g, 1, none⟩ = some (.slice A L.length c) := (blk_cell BG4.out 1).trans rfl
  obtain ⟨bq, d8⟩ : ∃ bq, mhas (atMap ins L) ⟨lo, hi⟩ = bq := ⟨_, rfl⟩
  rw [d8]
  rcases Bool.eq_false_or_eq_true bq with rfl | rfl
  · go_wp2
    go_ret
    have hE := HE.out
    rw [if_pos d8] at hE
    subst hE
    exact ⟨rfl, ⟨A, c, mb, BG4.out, HR4.out, HM4.out, GG.out, GM.out⟩, HB4.out, F4.out⟩
  by_cases d9 : 3000 ≤ L.length
  · have e9 : decide ((3000 : Int) ≤ (L.length : Int)) = true := decide_eq_true (by omega)
    replace d9 := Aside0.mk d9
    go_wp2
    go_ret
    have hE := HE.out
    rw [if_neg (show ¬ mhas (atMap ins L) ⟨lo, hi⟩ = true by rw [d8]; decide), if_pos d9.out] at hE
    subst hE
    exact ⟨rfl, ⟨A, c, mb, BG4.out, HR4.out, HM4.out, GG.out, GM.out⟩, HB4.out, F4.out⟩
  have e9 : decide ((3000 : Int) ≤ (L.length : Int)) = false := decide_eq_false (by omega)
  replace d9 := Aside0.mk d9
  have hW : Aside0 (impl_Graph_wires.f ins L = some (2 * (ins + 1 + L.length))) := ⟨by unfold impl_Graph_wires.f; congr 1; unfold wrap64; omega⟩
  have hRd := Aside0.mk (Kd.R_reads' HR4.out)
  have hcg2 : w4.cell? ⟨g, 2, none⟩ = some (.map (some mb)) := (blk_cell BG4.out 2).trans rfl
  have hml : Aside0 ((atMap ins L).length < maxLen) := ⟨by rw [atMap_length]; unfold maxLen; have := d9.out; omega⟩
  have hvf : Aside0 ((Lit.int .i64 (2 * (ins + 1 + (L.length : Int)))).wf = true) := ⟨WalkArith.wf_i64 (by have := d9.out; omega)⟩
  have hin' := Aside0.mk hin
  clear hin
  go_upto_region 14 with (first | ((with_reducible refine gate_callee (f := 64) rfl ?_); (try (refine gate_guard (by rfl) ?_; dsimp only)); refine goesL_ (some 66) rfl rfl Try.func64 (by kernel_rfl) rfl #[.agg #[.int .i64 ins, .slice A L.length c]] rfl (by (try simp only [List.map_toArray, List.map_cons, List.map_nil]); first | done | rfl) ?_; (with_reducible refine (impl_Graph_wires.calls ins A c L _ _ hRd.out.2.2 hRd.out.2.1 hW.out).mono ?_); rintro e w5 ⟨rfl, hb⟩; refine ⟨_, rfl, ?_⟩; have hb5 := Aside0.mk hb; clear hb hcg0 hcg1 hcg2))
  have BD5 := Aside0.mk (below_drew1 hb5.out)
  have BK6 := Aside0.mk (blk_below BK4.out BD5.out)
  have BG6 := Aside0.mk (blk_below BG4.out BD5.out)
  have HM6 := Aside0.mk (HM4.out.below BD5.out HM4.out.lt)
  have HR6 := Aside0.mk (Kd.R_below HR4.out BD5.out)
  have HB6 := Aside0.mk (below_step HB4.out BD5.out)
  have F6 : Aside0 (Fr g w w5.drew) := ⟨fun k cs T h1 h2 h => blk_below (F4.out k cs T h1 h2 h) BD5.out⟩
  clear BK4 BG4 HM4 HR4 HB4 F4 BD5 hb5 hRd BW4
  refine start_ (n := 13) (S := fun w' => w'.cell? ⟨g, 1, none⟩ = some (.slice A L.length c) ∧ w'.cell? ⟨gk, 0, none⟩ = some (.int .i64 lo) ∧ w'.cell? ⟨gk, 1, none⟩ = some (.int .i64 hi)) (ds := [12]) #[false, false, false, false, false, false, false, false, false, false, false, false, false] (by kernel_rfl) rfl rfl ⟨(blk_cell BG6.out 1).trans rfl, (blk_cell BK6.out 0).trans rfl, (blk_cell BK6.out 1).trans rfl⟩ (fun hHeld => ?_)
  generalize w5.drew = w6 at BK6 BG6 HM6 HR6 HB6 F6 hHeld ⊢
  refine pure_ (i := 0) (N := some 67) (v := ?_) (a' := ?_) #[true, false, false, false, false, false, false, false, false, false, false, false, false] rfl rfl (by kernel_rfl) (fun _ _ _ h => h) (Or.inl ⟨by rfl, ?_⟩) ?_ ?_
  rotate_left
  · intro w'
    go_simp
    with_reducible rfl
  rotate_left
  · simp only [Act.put, List.setIfInBounds_toArray, List.set_cons_zero, List.set_cons_succ, i64_w, i32_w]
    rfl
  refine pure_ (i := 1) (N := some 68) (v := ?_) (a' := ?_) #[true, true, false, false, false, false, false, false, false, false, false, false, false] rfl rfl (by kernel_rfl) (fun _ _ _ h => h) (Or.inl ⟨by rfl, ?_⟩) ?_ ?_
  rotate_left
  · intro w'
    go_simp
    with_reducible rfl
  rotate_left
  · simp only [Act.put, List.setIfInBounds_toArray, List.set_cons_zero, List.set_cons_succ, i64_w, i32_w]
    rfl
  refine pure_ (i := 2) (N := some 69) (v := ?_) (a' := ?_) #[true, true, true, false, false, false, false, false, false, false, false, false, false] rfl rfl (by kernel_rfl) (fun _ _ _ h => h) (Or.inl ⟨by rfl, ?_⟩) ?_ ?_
  rotate_left
  · intro w'
    go_simp
    with_reducible rfl
  rotate_left
  · simp only [Act.put, List.setIfInBounds_toArray, List.set_cons_zero, List.set_cons_succ, i64_w, i32_w]
    rfl
  refine pure_ (i := 3) (N := some 70) (v := ?_) (a' := ?_) #[true, true, true, true, false, false, false, false, false, false, false, false, false] rfl rfl (by kernel_rfl) (fun _ _ _ h => h) (Or.inl ⟨by rfl, ?_⟩) ?_ ?_
  rotate_left
  · intro w'
    go_simp
    with_reducible rfl
  rotate_left
  · simp only [Act.put, List.setIfInBounds_toArray, List.set_cons_zero, List.set_cons_succ, i64_w, i32_w]
    rfl
  refine pure_ (i := 4) (N := some 71) (v := ?_) (a' := ?_) #[true, true, true, true, true, false, false, false, false, false, false, false, false] rfl rfl (by kernel_rfl) (fun _ _ _ h => h) (Or.inl ⟨by rfl, ?_⟩) ?_ ?_
  rotate_left
  · intro w'
    go_simp
    with_reducible rfl
  rotate_left
  · simp only [Act.put, List.setIfInBounds_toArray, List.set_cons_zero, List.set_cons_succ, i64_w, i32_w]
    rfl
  refine take_ (i := 5) (N := some 72) (v := ?_) (a' := ?_) #[true, true, true, true, true, true, false, false, false, false, false, false, false] rfl rfl (by kernel_rfl) (fun _ _ _ h => h) (Or.inl ⟨by rfl, ?_⟩) hHeld ?_ ?_
  rotate_left
  · rintro w' ⟨s0, s1, s2⟩
    go_simp
    with_reducible rfl
  rotate_left
  · simp only [Act.put, List.setIfInBounds_toArray, List.set_cons_zero, List.set_cons_succ, i64_w, i32_w]
    rfl
  refine take_ (i := 6) (N := some 73) (v := ?_) (a' := ?_) #[true, true, true, true, true, true, true, false, false, false, false, false, false] rfl rfl (by kernel_rfl) (fun _ _ _ h => h) (Or.inl ⟨by rfl, ?_⟩) hHeld ?_ ?_
  rotate_left
  · rintro w' ⟨s0, s1, s2⟩
    go_simp
    with_reducible rfl
  rotate_left
  · simp only [Act.put, List.setIfInBounds_toArray, List.set_cons_zero, List.set_cons_succ, i64_w, i32_w]
    rfl
  refine one_ (i := 7) (N := some 74) #[true, true, true, true, true, true, true, true, false, false, false, false, false] rfl rfl (by kernel_rfl) (by decide) (fun K hK => ?_)
  refine value_ (w1 := ?_) (v := ?_) (by rfl) rfl ?_ ?_
  rotate_left 2
  · go_simp
    constructor
    · rfl
    · rfl
  refine hK.out _ _ ⟨(blk_cell (blk_alloc BG6.out _) 1).trans rfl, (blk_cell (blk_alloc BK6.out _) 0).trans rfl, (blk_cell (blk_alloc BK6.out _) 1).trans rfl⟩ (fun hHeld => ?_)
  clear hK K
  refine norm_ (a' := ?_) ?_ ?_
  rotate_left
  · show Act.put _ (some 74) _ = _
    simp only [Act.put, List.setIfInBounds_toArray, List.set_cons_zero, List.set_cons_succ, i64_w, i32_w]
    rfl
  refine one_ (i := 8) (N := some 75) #[true, true, true, true, true, true, true, true, true, false, false, false, false] rfl rfl (by kernel_rfl) (by decide) (fun K hK => ?_)
  refine Kd.R_append_step k79 (w0 := w0) w0.heap.size (by rfl) (.tmp 72) (.tmp 74) 27 79 (.agg #[(.int .i64 0), (.int .i64 0)]) 16 rfl Try.underlying27 info79 rfl (by decide) (by omega) (.slice A L.length c) L (⟨lo, hi⟩ : S79) [.int .i64 lo, .int .i64 hi] (fun _ => True) (fun _ => False) rfl rfl ?aP (fun _ hk => hk.elim) ?aF ?aO ?aB ?aS ?aL ?_
  (case aP => exact k79_mkM _ _ _ (⟨lo, hi⟩ : S79))
  (case aB => exact HB6.out)
  (case aF => exact (fun _ _ => trivial))
  (case aO => exact HR6.out)
  (case aS => exact below_size HB6.out)
  (case aL => omega)
  intro v7 w7 ho hbx hg hat
  obtain ⟨A7, c7, e7⟩ := Kd.R_slice ho
  obtain ⟨n7, hn7⟩ : ∃ n, n = (L ++ [(⟨lo, hi⟩ : S79)]).length := ⟨_, rfl⟩
  rw [← hn7] at e7
  subst e7
  have N7 := Aside0.mk hn7
  clear hn7
  have NE : Aside0 (g ≠ gk) := ⟨fun e => by have := GK.out; have := hltg.out; omega⟩
  have BG7 := Aside0.mk (blk_grown BG6.out hg (Kd.R_ne HR6.out BG6.out (by decide)))
  have BK7 := Aside0.mk (blk_grown BK6.out hg (fun e => by have := hltr.out gk e.symm; have := GK.out; omega))
  have HM7 := Aside0.mk (HM6.out.kept hg (fun e => by obtain ⟨cells, hc⟩ := Kd.R_typed HR6.out mb e.symm; exact HM6.out.ne hc rfl))
  have F7 : Aside0 (Fr g w w7) := ⟨fun k cs T h1 h2 h => blk_grown (F6.out k cs T h1 h2 h) hg (fun e => by obtain ⟨cells, hc⟩ := Kd.R_typed HR6.out k e.symm; have h3 := F6.out k cs T h1 h2 h; rw [hc] at h3; injection h3 with h3; injection h3 with _ h3; exact h2 h3.symm)⟩
  have HR7 := Aside0.mk ho
  have HB7 := Aside0.mk hbx
  clear ho hbx hg hat HR6 HB6 F6 HM6
  refine hK.out _ _ ⟨(blk_cell BG7.out 1).trans rfl, (blk_cell BK7.out 0).trans rfl, (blk_cell BK7.out 1).trans rfl⟩ (fun hHeld => ?_)
  clear hK K
  refine norm_ (a' := ?_) ?_ ?_
  rotate_left
  · show Act.put _ (some 75) _ = _
    simp only [Act.put, List.setIfInBounds_toArray, List.set_cons_zero, List.set_cons_succ, i64_w, i32_w]
    rfl
  refine pure_ (i := 9) (N := some 76) (v := ?_) (a' := ?_) #[true, true, true, true, true, true, true, true, true, true, false, false, false] rfl rfl (by kernel_rfl) (fun _ _ _ h => h) (Or.inl ⟨by rfl, ?_⟩) ?_ ?_
  rotate_left
  · intro w'
    go_simp
    with_reducible rfl
  rotate_left
  · simp only [Act.put, List.setIfInBounds_toArray, List.set_cons_zero, List.set_cons_succ, i64_w, i32_w]
    rfl
  refine pure_ (i := 10) (N := some 77) (v := ?_) (a' := ?_) #[true, true, true, true, true, true, true, true, true, true, true, false, false] rfl rfl (by kernel_rfl) (fun _ _ _ h => h) (Or.inl ⟨by rfl, ?_⟩) ?_ ?_
  rotate_left
  · intro w'
    go_simp
    with_reducible rfl
  rotate_left
  · simp only [Act.put, List.setIfInBounds_toArray, List.set_cons_zero, List.set_cons_succ, i64_w, i32_w]
    rfl
  refine pure_ (i := 11) (N := some 78) (v := ?_) (a' := ?_) #[true, true, true, true, true, true, true, true, true, true, true, true, false] rfl rfl (by kernel_rfl) (fun _ _ _ h => h) (Or.inl ⟨by rfl, ?_⟩) ?_ ?_
  rotate_left
  · intro w'
    go_simp
    with_reducible rfl
  rotate_left
  · simp only [Act.put, List.setIfInBounds_toArray, List.set_cons_zero, List.set_cons_succ, i64_w, i32_w]
    rfl
  refine last_ (i := 12) (N := none) #[true, true, true, true, true, true, true, true, true, true, true, true, true] rfl rfl (by kernel_rfl) (by decide) (fun K hK => ?_)
  have hs7 : w7.cell? ⟨g, 1, none⟩ = some (.slice A L.length c) := (blk_cell BG7.out 1).trans rfl
  have hfs7 := blk_frozen BG7.out 1
  refine skip_ (w1 := ?_) (by rfl) rfl ?_ ?_
  rotate_left
  · go_simp
    rfl
  clear hs7 hfs7
  refine hK.out _ _ ?_
  clear hK K
  refine done_ (by kernel_rfl) ?_

  clear hHeld
  have BG8 : Aside0 ((w7.setCell ⟨g, 1, none⟩ (Value.slice A7 n7 c7)).heap[g]? = some (.cells #[.int .i64 ins, .slice A7 n7 c7, .map (some mb)] 104 (0, 0))) := ⟨blk_put (cs := #[.int .i64 ins, .slice A L.length c, .map (some mb)]) BG7.out 1 (Value.slice A7 n7 c7) rfl⟩
  have BK8 := Aside0.mk (blk_far BK7.out NE.out.symm (p := (⟨g, 1, none⟩ : Addr)) (Value.slice A7 n7 c7))
  have HR8 := Aside0.mk (Kd.R_set HR7.out BG7.out (by decide) 1 (Value.slice A7 n7 c7))
  have HM8 := Aside0.mk (HM7.out.setCell (p := (⟨g, 1, none⟩ : Addr)) (HM7.out.ne BG7.out) (Value.slice A7 n7 c7))
  have HB8 := Aside0.mk (below_set (j := 1) (v := (Value.slice A7 n7 c7)) HB7.out GG.out)
  have F8 : Aside0 (Fr g w (w7.setCell ⟨g, 1, none⟩ (Value.slice A7 n7 c7))) := ⟨fun k cs T h1 h2 h => blk_far (F7.out k cs T h1 h2 h) h1 _⟩
  clear BG7 BK7 HR7 HM7 HB7 F7
  generalize w7.setCell ⟨g, 1, none⟩ (Value.slice A7 n7 c7) = w8 at BG8 BK8 HR8 HM8 HB8 F8 ⊢
  go_upto_region 15 with (fail)
  have BD8 := Aside0.mk (below_drew1 (Below.refl w8.heap.size w8))
  have BK9 := Aside0.mk (blk_below BK8.out BD8.out)
  have BG9 := Aside0.mk (blk_below BG8.out BD8.out)
  have HM9 := Aside0.mk (HM8.out.below BD8.out HM8.out.lt)
  have HR9 := Aside0.mk (Kd.R_below HR8.out BD8.out)
  have HB9 := Aside0.mk (below_step HB8.out BD8.out)
  have F9 : Aside0 (Fr g w w8.drew) := ⟨fun k cs T h1 h2 h => blk_below (F8.out k cs T h1 h2 h) BD8.out⟩
  clear BK8 BG8 HM8 HR8 HB8 F8 BD8
  refine start_ (n := 7) (S := fun w' => w'.cell? ⟨g, 2, none⟩ = some (.map (some mb)) ∧ w'.cell? ⟨gk, 0, none⟩ = some (.int .i64 lo) ∧ w'.cell? ⟨gk, 1, none⟩ = some (.int .i64 hi)) (ds := [6]) #[false, false, false, false, false, false, false] (by kernel_rfl) rfl rfl ⟨(blk_cell BG9.out 2).trans rfl, (blk_cell BK9.out 0).trans rfl, (blk_cell BK9.out 1).trans rfl⟩ (fun hHeld => ?_)
  generalize w8.drew = w9 at BK9 BG9 HM9 HR9 HB9 F9 hHeld ⊢
  refine pure_ (i := 0) (N := some 79) (v := ?_) (a' := ?_) #[true, false, false, false, false, false, false] rfl rfl (by kernel_rfl) (fun _ _ _ h => h) (Or.inl ⟨by rfl, ?_⟩) ?_ ?_
  rotate_left
  · intro w'
    go_simp
    with_reducible rfl
  rotate_left
  · simp only [Act.put, List.setIfInBounds_toArray, List.set_cons_zero, List.set_cons_succ, i64_w, i32_w]
    rfl
  refine pure_ (i := 1) (N := some 80) (v := ?_) (a' := ?_) #[true, true, false, false, false, false, false] rfl rfl (by kernel_rfl) (fun _ _ _ h => h) (Or.inl ⟨by rfl, ?_⟩) ?_ ?_
  rotate_left
  · intro w'
    go_simp
    with_reducible rfl
  rotate_left
  · simp only [Act.put, List.setIfInBounds_toArray, List.set_cons_zero, List.set_cons_succ, i64_w, i32_w]
    rfl
  refine pure_ (i := 2) (N := some 81) (v := ?_) (a' := ?_) #[true, true, true, false, false, false, false] rfl rfl (by kernel_rfl) (fun _ _ _ h => h) (Or.inl ⟨by rfl, ?_⟩) ?_ ?_
  rotate_left
  · intro w'
    go_simp
    with_reducible rfl
  rotate_left
  · simp only [Act.put, List.setIfInBounds_toArray, List.set_cons_zero, List.set_cons_succ, i64_w, i32_w]
    rfl
  refine pure_ (i := 5) (N := some 84) (v := ?_) (a' := ?_) #[true, true, true, false, false, true, false] rfl rfl (by kernel_rfl) (fun _ _ _ h => h) (Or.inl ⟨by rfl, ?_⟩) ?_ ?_
  rotate_left
  · intro w'
    go_simp
    with_reducible rfl
  rotate_left
  · simp only [Act.put, List.setIfInBounds_toArray, List.set_cons_zero, List.set_cons_succ, i64_w, i32_w]
    rfl
  refine take_ (i := 3) (N := some 82) (v := ?_) (a' := ?_) #[true, true, true, true, false, true, false] rfl rfl (by kernel_rfl) (fun _ _ _ h => h) (Or.inl ⟨by rfl, ?_⟩) hHeld ?_ ?_
  rotate_left
  · rintro w' ⟨s0, s1, s2⟩
    go_simp
    with_reducible rfl
  rotate_left
  · simp only [Act.put, List.setIfInBounds_toArray, List.set_cons_zero, List.set_cons_succ, i64_w, i32_w]
    rfl
  refine take_ (i := 4) (N := some 83) (v := ?_) (a' := ?_) #[true, true, true, true, true, true, false] rfl rfl (by kernel_rfl) (fun _ _ _ h => h) (Or.inl ⟨by rfl, ?_⟩) hHeld ?_ ?_
  rotate_left
  · rintro w' ⟨s0, s1, s2⟩
    go_simp
    with_reducible rfl
  rotate_left
  · simp only [Act.put, List.setIfInBounds_toArray, List.set_cons_zero, List.set_cons_succ, i64_w, i32_w]
    rfl
  refine last_ (i := 6) (N := none) #[true, true, true, true, true, true, true] rfl rfl (by kernel_rfl) (by decide) (fun K hK => ?_)
  refine mput_step (κ := S79) (P := Try.prog) (t := 81) (k := 79) (e := 3) (m := atMap ins L) (by rfl) rfl (.tmp 82) (.tmp 83) (.tmp 84) rfl andCodec Try.underlying81 Try.underlying3 HM9.out rfl ⟨lo, hi⟩ rfl hwf.out _ rfl hvf.out hml.out ?_
  intro w10 hm10 hg10
  have HM10 := Aside0.mk hm10
  have BG10 := Aside0.mk (blk_grown BG9.out hg10 (fun e => HM9.out.ne BG9.out (Option.some.inj e).symm))
  have HR10 : Aside0 (Kd.R k79 79 w10 w0.heap.size (fun _ => True) (Value.slice A7 n7 c7) (L ++ [⟨lo, hi⟩])) := ⟨Kd.R_mono (Kd.R_grown (Kd.R_bound HR9.out) hg10 (fun k hk e => by obtain ⟨_, _, _, q, hq, cells, hc⟩ := hk; exact HM9.out.ne hc (Option.some.inj e).symm)) (fun _ _ => trivial)⟩
  have HB10 := Aside0.mk (pw_below_grown HB9.out (some mb) HB9.out.size hg10 (fun k_ hk_ => by injection hk_ with hk_; subst hk_; exact GM.out))
  have F10 : Aside0 (Fr g w w10) := ⟨fun k cs T h1 h2 h => blk_grown (F9.out k cs T h1 h2 h) hg10 (fun e => HM9.out.ne (F9.out k cs T h1 h2 h) (Option.some.inj e).symm)⟩
  clear hm10 hg10
  refine hK.out _ _ ?_
  clear hK K
  refine done_ (by kernel_rfl) ?_

  clear hHeld
  go_wp2
  go_ret
  have hE := HE.out
  rw [if_neg (show ¬ mhas (atMap ins L) ⟨lo, hi⟩ = true by rw [d8]; decide), if_neg d9.out] at hE
  subst hE
  have hn := N7.out
  subst hn
  exact ⟨rfl, ⟨A7, c7, mb, BG10.out, HR10.out, (by rw [atMap_app]; exact HM10.out), GG.out, GM.out⟩, HB10.out, F10.out⟩
theorem wraps62 : ∀ n : Int, 0 ≤ n → n < 2 ^ 62 → IntKind.wrap .i64 n = n := fun n h0 h1 => by rw [IntKind.wrap_i64]; omega
theorem xor_nat (a b : Nat) (ha : a < 2 ^ 62) (hb : b < 2 ^ 62) : Go.bits .xor .i64 (a : Int) (b : Int) = ((a ^^^ b : Nat) : Int) := by
  have ha' : a % 2 ^ IntKind.i64.bits = a := Nat.mod_eq_of_lt (Nat.lt_of_lt_of_le ha (by decide))
  have hb' : b % 2 ^ IntKind.i64.bits = b := Nat.mod_eq_of_lt (Nat.lt_of_lt_of_le hb (by decide))
  simp only [bits, BitVec.ofInt_natCast, BitVec.toNat_xor, BitVec.toNat_ofNat, ha', hb']
  exact wraps62 _ (Int.natCast_nonneg _) (by exact_mod_cast Nat.xor_lt_two_pow ha hb)
theorem turn_bd {x : Int} (h : 0 ≤ x ∧ x ≤ 1048575) : 0 ≤ Go.bits .xor .i64 x 1 ∧ Go.bits .xor .i64 x 1 ≤ 1048575 := by
  obtain ⟨n, rfl⟩ := Int.eq_ofNat_of_zero_le h.1
  have h1 := xor_nat n 1 (by omega) (by decide)
  rw [show ((1 : Nat) : Int) = 1 from rfl] at h1
  rw [h1]
  have := Nat.xor_lt_two_pow (x := n) (y := 1) (n := 20) (by omega) (by decide)
  omega
theorem mget_at (ins : Int) (L : List S79) (k : S79) : mget (atMap ins L) k = 0 ∨ ∃ i : Nat, i < L.length ∧ mget (atMap ins L) k = 2 * (ins + 1 + i) := by
  suffices h : ∀ l : List (S79 × Int), (∀ p ∈ l, ∃ i : Nat, i < L.length ∧ p.2 = 2 * (ins + 1 + i)) → mget l k = 0 ∨ ∃ i : Nat, i < L.length ∧ mget l k = 2 * (ins + 1 + i) by
    refine h _ fun p hp => ?_
    simp only [atMap, List.mem_reverse, List.mem_map, List.mem_range] at hp
    obtain ⟨i, hi, rfl⟩ := hp
    exact ⟨i, hi, rfl⟩
  intro l
  induction l with
  | nil => intro _; exact .inl rfl
  | cons p r ih =>
    intro h
    unfold mget
    split
    · obtain ⟨i, hi, e⟩ := h p (by simp)
      exact .inr ⟨i, hi, e⟩
    · exact ih fun q hq => h q (by simp [hq])
theorem andR_bd {ins : Int} {L : List S79} {x y : Int} (hin : 0 ≤ ins ∧ ins ≤ 1000) (hL : L.length ≤ 3000) (hx : 0 ≤ x ∧ x ≤ 1048575) (hy : 0 ≤ y ∧ y ≤ 1048575) :
    (-1 ≤ (andR ins L x y).2 ∧ (andR ins L x y).2 ≤ 1048575) ∧ (andR ins L x y).1.length ≤ 3000 := by
  unfold andR
  have hm := mget_at ins L ⟨min x y, max x y⟩
  repeat' split
  all_goals refine ⟨?_, ?_⟩
  all_goals try (simp only [List.length_append, List.length_singleton])
  all_goals first | omega | (rcases hm with h | ⟨i, hi, h⟩ <;> rw [h] <;> omega)
def orR (ins : Int) (L : List S79) (x y : Int) : List S79 × Int :=
  ((andR ins L (Go.bits .xor .i64 x 1) (Go.bits .xor .i64 y 1)).1, if (andR ins L (Go.bits .xor .i64 x 1) (Go.bits .xor .i64 y 1)).2 < 0 then -1 else Go.bits .xor .i64 (andR ins L (Go.bits .xor .i64 x 1) (Go.bits .xor .i64 y 1)).2 1)
theorem orR_bd {ins : Int} {L : List S79} {x y : Int} (hin : 0 ≤ ins ∧ ins ≤ 1000) (hL : L.length ≤ 3000) (hx : 0 ≤ x ∧ x ≤ 1048575) (hy : 0 ≤ y ∧ y ≤ 1048575) :
    (-1 ≤ (orR ins L x y).2 ∧ (orR ins L x y).2 ≤ 1048575) ∧ (orR ins L x y).1.length ≤ 3000 := by
  have h := andR_bd hin hL (turn_bd hx) (turn_bd hy)
  unfold orR
  refine ⟨?_, h.2⟩
  dsimp only
  split
  · omega
  · have := turn_bd (x := (andR ins L (Go.bits .xor .i64 x 1) (Go.bits .xor .i64 y 1)).2) ⟨by omega, h.1.2⟩
    omega
theorem Fr.trans {g : Nat} {w w1 w2 : World} (h : Fr g w w1) (h2 : Fr g w1 w2) : Fr g w w2 := fun k cs T a b c => h2 k cs T a b (h k cs T a b c)
set_option maxHeartbeats 8000000 in
set_option maxRecDepth 100000 in
theorem builder_or.calls (w0 : World) (g : Nat) (ins : Int) (L : List S79) (x y : Int) (w : World) (hI : IsBx w w0.heap.size g ins L) (hB : Below w0.heap.size w0 w)
    (hx : 0 ≤ x ∧ x ≤ 1048575) (hy : 0 ≤ y ∧ y ≤ 1048575) (hin : 0 ≤ ins ∧ ins ≤ 1000) (hL : L.length ≤ 3000) :
    Calls Try.prog 79 #[.pointer (some ⟨g, 0, none⟩), .int .i64 x, .int .i64 y] w fun e w' => e = .returned (.int .i64 (orR ins L x y).2) ∧ IsBx w' w0.heap.size g ins (orR ins L x y).1 ∧ Below w0.heap.size w0 w' ∧ Fr g w w' := by
  have HI := Aside0.mk hI
  have HB := Aside0.mk hB
  have HX := Aside0.mk (turn_bd hx)
  have HY := Aside0.mk (turn_bd hy)
  have HN := Aside0.mk hin
  have HL := Aside0.mk hL
  clear hI hB hx hy hin hL
  have hE : orR ins L x y = orR ins L x y := rfl
  conv at hE => rhs; unfold orR
  generalize orR ins L x y = r at hE ⊢
  obtain ⟨q, hq⟩ : ∃ q, andR ins L (Go.bits .xor .i64 x 1) (Go.bits .xor .i64 y 1) = q := ⟨_, rfl⟩
  rw [hq] at hE
  obtain ⟨q1, q2⟩ := q
  dsimp only at hE
  have HQ := Aside0.mk hq
  by_cases c1 : q2 < 0
  · rw [if_pos c1] at hE
    subst hE
    have d1 : decide (q2 < 0) = true := decide_eq_true c1
    clear c1 hq
    go_enter Try.func79, Try.ntmps79
    go_wp2_with (first | ((with_reducible refine gate_callee (f := 74) rfl ?_); (try (refine gate_guard (by rfl) ?_; dsimp only)); refine goesL_ (some 13) rfl rfl Try.func74 (by kernel_rfl) rfl #[.pointer (some ⟨g, 0, none⟩), .int .i64 (Go.bits .xor .i64 x 1), .int .i64 (Go.bits .xor .i64 y 1)] rfl (by (try simp only [List.map_toArray, List.map_cons, List.map_nil]); first | done | rfl) ?_; (with_reducible refine (builder_and.calls w0 g ins L _ _ _ HI.out HB.out HX.out HY.out HN.out HL.out).mono ?_); rw [HQ.out]; rintro e w3 ⟨rfl, hI3, hB3, hF3⟩; refine ⟨_, rfl, ?_⟩; have HI3 := Aside0.mk hI3; have HB3 := Aside0.mk hB3; have HF3 := Aside0.mk hF3; clear hI3 hB3 hF3))
    go_ret
    exact ⟨rfl, HI3.out, HB3.out, HF3.out⟩
  · rw [if_neg c1] at hE
    subst hE
    have d1 : decide (q2 < 0) = false := decide_eq_false c1
    clear c1 hq
    go_enter Try.func79, Try.ntmps79
    go_wp2_with (first | ((with_reducible refine gate_callee (f := 74) rfl ?_); (try (refine gate_guard (by rfl) ?_; dsimp only)); refine goesL_ (some 13) rfl rfl Try.func74 (by kernel_rfl) rfl #[.pointer (some ⟨g, 0, none⟩), .int .i64 (Go.bits .xor .i64 x 1), .int .i64 (Go.bits .xor .i64 y 1)] rfl (by (try simp only [List.map_toArray, List.map_cons, List.map_nil]); first | done | rfl) ?_; (with_reducible refine (builder_and.calls w0 g ins L _ _ _ HI.out HB.out HX.out HY.out HN.out HL.out).mono ?_); rw [HQ.out]; rintro e w3 ⟨rfl, hI3, hB3, hF3⟩; refine ⟨_, rfl, ?_⟩; have HI3 := Aside0.mk hI3; have HB3 := Aside0.mk hB3; have HF3 := Aside0.mk hF3; clear hI3 hB3 hF3))
    go_ret
    exact ⟨rfl, HI3.out, HB3.out, HF3.out⟩
def pickR (ins : Int) (L : List S79) (x p q : Int) : List S79 × Int :=
  if (andR ins L x p).2 < 0 then ((andR ins L x p).1, -1)
  else if (andR ins (andR ins L x p).1 (Go.bits .xor .i64 x 1) q).2 < 0 then ((andR ins (andR ins L x p).1 (Go.bits .xor .i64 x 1) q).1, -1)
  else orR ins (andR ins (andR ins L x p).1 (Go.bits .xor .i64 x 1) q).1 (andR ins L x p).2 (andR ins (andR ins L x p).1 (Go.bits .xor .i64 x 1) q).2
theorem pickR_bd {ins : Int} {L : List S79} {x p q : Int} (hin : 0 ≤ ins ∧ ins ≤ 1000) (hL : L.length ≤ 3000) (hx : 0 ≤ x ∧ x ≤ 1048575) (hp : 0 ≤ p ∧ p ≤ 1048575) (hq : 0 ≤ q ∧ q ≤ 1048575) :
    (-1 ≤ (pickR ins L x p q).2 ∧ (pickR ins L x p q).2 ≤ 1048575) ∧ (pickR ins L x p q).1.length ≤ 3000 := by
  have h1 := andR_bd hin hL hx hp
  have h2 := andR_bd hin h1.2 (turn_bd hx) hq
  unfold pickR
  split
  · exact ⟨by dsimp only; omega, h1.2⟩
  split
  · exact ⟨by dsimp only; omega, h2.2⟩
  exact orR_bd hin h2.2 (by omega) (by omega)
set_option maxHeartbeats 8000000 in
set_option maxRecDepth 100000 in
theorem builder_pick.calls (w0 : World) (g : Nat) (ins : Int) (L : List S79) (x p q : Int) (w : World) (hI : IsBx w w0.heap.size g ins L) (hB : Below w0.heap.size w0 w)
    (hx : 0 ≤ x ∧ x ≤ 1048575) (hp : 0 ≤ p ∧ p ≤ 1048575) (hq : 0 ≤ q ∧ q ≤ 1048575) (hin : 0 ≤ ins ∧ ins ≤ 1000) (hL : L.length ≤ 3000) :
    Calls Try.prog 82 #[.pointer (some ⟨g, 0, none⟩), .int .i64 x, .int .i64 p, .int .i64 q] w fun e w' => e = .returned (.int .i64 (pickR ins L x p q).2) ∧ IsBx w' w0.heap.size g ins (pickR ins L x p q).1 ∧ Below w0.heap.size w0 w' ∧ Fr g w w' := by
  have HI := Aside0.mk hI
  have HB := Aside0.mk hB
  have HX := Aside0.mk hx
  have HT := Aside0.mk (turn_bd hx)
  have HP := Aside0.mk hp
  have HQ := Aside0.mk hq
  have HN := Aside0.mk hin
  have HL := Aside0.mk hL
  have b1 := andR_bd hin hL hx hp
  have b2 := andR_bd hin b1.2 (turn_bd hx) hq
  clear hI hB hx hp hq hin hL
  have hE : pickR ins L x p q = pickR ins L x p q := rfl
  conv at hE => rhs; unfold pickR
  generalize pickR ins L x p q = r at hE ⊢
  obtain ⟨u, hu⟩ : ∃ u, andR ins L x p = u := ⟨_, rfl⟩
  rw [hu] at hE b1 b2
  obtain ⟨u1, u2⟩ := u
  dsimp only at hE b1 b2
  obtain ⟨v, hv⟩ : ∃ v, andR ins u1 (Go.bits .xor .i64 x 1) q = v := ⟨_, rfl⟩
  rw [hv] at hE b2
  obtain ⟨v1, v2⟩ := v
  dsimp only at hE b2
  have HU := Aside0.mk hu
  have HV := Aside0.mk hv
  clear hu hv
  have B1 := Aside0.mk b1
  have B2 := Aside0.mk b2
  clear b1 b2
  by_cases c1 : u2 < 0
  · rw [if_pos c1] at hE
    subst hE
    have d1 : decide (u2 < 0) = true := decide_eq_true c1
    clear c1
    go_enter Try.func82, Try.ntmps82
    go_wp2_with (first | ((with_reducible refine gate_callee (f := 74) rfl ?_); (try (refine gate_guard (by rfl) ?_; dsimp only)); refine goesL_ (some 14) rfl rfl Try.func74 (by kernel_rfl) rfl #[.pointer (some ⟨g, 0, none⟩), .int .i64 x, .int .i64 p] rfl (by (try simp only [List.map_toArray, List.map_cons, List.map_nil]); first | done | rfl) ?_; (with_reducible refine (builder_and.calls w0 g ins L _ _ _ HI.out HB.out HX.out HP.out HN.out HL.out).mono ?_); rw [HU.out]; rintro e w3 ⟨rfl, hI, hB, hF⟩; refine ⟨_, rfl, ?_⟩; have HI3 := Aside0.mk hI; have HB3 := Aside0.mk hB; have HF3 := Aside0.mk hF; clear hI hB hF))
    go_ret
    exact ⟨rfl, HI3.out, HB3.out, HF3.out⟩
  rw [if_neg c1] at hE
  have d1 : decide (u2 < 0) = false := decide_eq_false c1
  have C1 := Aside0.mk (show 0 ≤ u2 by omega)
  clear c1
  by_cases c2 : v2 < 0
  · rw [if_pos c2] at hE
    subst hE
    have d2 : decide (v2 < 0) = true := decide_eq_true c2
    clear c2
    go_enter Try.func82, Try.ntmps82
    go_wp2_with (first | ((with_reducible refine gate_callee (f := 74) rfl ?_); (try (refine gate_guard (by rfl) ?_; dsimp only)); refine goesL_ (some 14) rfl rfl Try.func74 (by kernel_rfl) rfl #[.pointer (some ⟨g, 0, none⟩), .int .i64 x, .int .i64 p] rfl (by (try simp only [List.map_toArray, List.map_cons, List.map_nil]); first | done | rfl) ?_; (with_reducible refine (builder_and.calls w0 g ins L _ _ _ HI.out HB.out HX.out HP.out HN.out HL.out).mono ?_); rw [HU.out]; rintro e w3 ⟨rfl, hI, hB, hF⟩; refine ⟨_, rfl, ?_⟩; have HI3 := Aside0.mk hI; have HB3 := Aside0.mk hB; have HF3 := Aside0.mk hF; clear hI hB hF) | ((with_reducible refine gate_callee (f := 74) rfl ?_); (try (refine gate_guard (by rfl) ?_; dsimp only)); refine goesL_ (some 21) rfl rfl Try.func74 (by kernel_rfl) rfl #[.pointer (some ⟨g, 0, none⟩), .int .i64 (Go.bits .xor .i64 x 1), .int .i64 q] rfl (by (try simp only [List.map_toArray, List.map_cons, List.map_nil]); first | done | rfl) ?_; (with_reducible refine (builder_and.calls w0 g ins u1 _ _ _ HI3.out HB3.out HT.out HQ.out HN.out B1.out.2).mono ?_); rw [HV.out]; rintro e w4 ⟨rfl, hI, hB, hF⟩; refine ⟨_, rfl, ?_⟩; have HI4 := Aside0.mk hI; have HB4 := Aside0.mk hB; have HF4 := Aside0.mk (HF3.out.trans hF); clear hI hB hF))
    go_ret
    exact ⟨rfl, HI4.out, HB4.out, HF4.out⟩
  rw [if_neg c2] at hE
  have d2 : decide (v2 < 0) = false := decide_eq_false c2
  have C2 := Aside0.mk (show 0 ≤ v2 by omega)
  clear c2
  have HW := Aside0.mk hE.symm
  clear hE
  go_enter Try.func82, Try.ntmps82
  go_wp2_with (first | ((with_reducible refine gate_callee (f := 74) rfl ?_); (try (refine gate_guard (by rfl) ?_; dsimp only)); refine goesL_ (some 14) rfl rfl Try.func74 (by kernel_rfl) rfl #[.pointer (some ⟨g, 0, none⟩), .int .i64 x, .int .i64 p] rfl (by (try simp only [List.map_toArray, List.map_cons, List.map_nil]); first | done | rfl) ?_; (with_reducible refine (builder_and.calls w0 g ins L _ _ _ HI.out HB.out HX.out HP.out HN.out HL.out).mono ?_); rw [HU.out]; rintro e w3 ⟨rfl, hI, hB, hF⟩; refine ⟨_, rfl, ?_⟩; have HI3 := Aside0.mk hI; have HB3 := Aside0.mk hB; have HF3 := Aside0.mk hF; clear hI hB hF) | ((with_reducible refine gate_callee (f := 74) rfl ?_); (try (refine gate_guard (by rfl) ?_; dsimp only)); refine goesL_ (some 21) rfl rfl Try.func74 (by kernel_rfl) rfl #[.pointer (some ⟨g, 0, none⟩), .int .i64 (Go.bits .xor .i64 x 1), .int .i64 q] rfl (by (try simp only [List.map_toArray, List.map_cons, List.map_nil]); first | done | rfl) ?_; (with_reducible refine (builder_and.calls w0 g ins u1 _ _ _ HI3.out HB3.out HT.out HQ.out HN.out B1.out.2).mono ?_); rw [HV.out]; rintro e w4 ⟨rfl, hI, hB, hF⟩; refine ⟨_, rfl, ?_⟩; have HI4 := Aside0.mk hI; have HB4 := Aside0.mk hB; have HF4 := Aside0.mk (HF3.out.trans hF); clear hI hB hF) | ((with_reducible refine gate_callee (f := 79) rfl ?_); (try (refine gate_guard (by rfl) ?_; dsimp only)); refine goesL_ (some 27) rfl rfl Try.func79 (by kernel_rfl) rfl #[.pointer (some ⟨g, 0, none⟩), .int .i64 u2, .int .i64 v2] rfl (by (try simp only [List.map_toArray, List.map_cons, List.map_nil]); first | done | rfl) ?_; (with_reducible refine (builder_or.calls w0 g ins v1 _ _ _ HI4.out HB4.out ⟨C1.out, B1.out.1.2⟩ ⟨C2.out, B2.out.1.2⟩ HN.out B2.out.2).mono ?_); rw [HW.out]; rintro e w5 ⟨rfl, hI, hB, hF⟩; refine ⟨_, rfl, ?_⟩; have HI5 := Aside0.mk hI; have HB5 := Aside0.mk hB; have HF5 := Aside0.mk (HF4.out.trans hF); clear hI hB hF))
  go_ret
  exact ⟨rfl, HI5.out, HB5.out, HF5.out⟩
def pm (ins : Int) (L : List S79) (n : Nat) : List (S79 × Int) := ((List.range n).map fun i : Nat => (rd_T79 L (i : Int), 2 * (ins + 1 + (i : Int)))).reverse
theorem pm_succ (ins : Int) (L : List S79) (n : Nat) : pm ins L (n + 1) = (rd_T79 L (n : Int), 2 * (ins + 1 + (n : Int))) :: pm ins L n := by
  unfold pm
  rw [List.range_succ, List.map_append, List.reverse_append, List.map_singleton, List.reverse_singleton, List.singleton_append]
theorem pm_length (ins : Int) (L : List S79) (n : Nat) : (pm ins L n).length = n := by simp [pm]
set_option maxHeartbeats 8000000 in
set_option maxRecDepth 100000 in
theorem newBuilder.calls (ins : Int) (A : Option Addr) (c : Nat) (L : List S79) (w : World) (hr : Kd.C k79 w A L.length L) (hc : L.length ≤ c) (hin : 0 ≤ ins ∧ ins ≤ 1000) (hL : L.length ≤ 3000) (hwfL : ∀ i : Nat, i < L.length → wfAnd (rd_T79 L (i : Int))) :
    Calls Try.prog 85 #[.agg #[.int .i64 ins, .slice A L.length c]] w fun e w' => ∃ g, e = .returned (.pointer (some ⟨g, 0, none⟩)) ∧ IsBx w' w.heap.size g ins L ∧ Below w.heap.size w w' := by
  have HR := Aside0.mk hr
  have HC := Aside0.mk hc
  have HN := Aside0.mk hin
  have HL := Aside0.mk hL
  have HF := Aside0.mk hwfL
  have HCG : Aside0 (impl_copyGraph.f ins L = some (ins, L)) := ⟨by unfold impl_copyGraph.f; rw [if_pos (by simp; omega)]; rfl⟩
  clear hr hc hin hL hwfL
  go_enter Try.func85, Try.ntmps85
  go_wp2_with (first | ((with_reducible refine gate_dst (N := 1) rfl ?_); refine box_event ?hg (N := 1) ?hd (cs := #[.int .i64 ins, .slice A L.length c]) (t := 29) ?hr ?_; (case hd => rfl); (case hg => rfl); (case hr => first | (go_simp; done) | (go_simp; rfl)); intro g1 hg w1 hbox hb; have BP := Aside0.mk hbox; have BL1 := Aside0.mk hb; have G1 := Aside0.mk (show w.heap.size ≤ g1 by rw [hg]; exact Nat.le_refl _); have hcp0 : w1.cell? ⟨g1, 0, none⟩ = some (.int .i64 ins) := (blk_cell BP.out 0).trans rfl; have hcp1 : w1.cell? ⟨g1, 1, none⟩ = some (.slice A L.length c) := (blk_cell BP.out 1).trans rfl; clear hg hbox hb) | ((with_reducible refine gate_callee (f := 102) rfl ?_); (try (refine gate_guard (by rfl) ?_; dsimp only)); refine goesL_ (some 7) rfl rfl Try.func102 (by kernel_rfl) rfl #[.agg #[.int .i64 ins, .slice A L.length c]] rfl (by (try simp only [List.map_toArray, List.map_cons, List.map_nil]); first | done | rfl) ?_; (with_reducible refine (impl_copyGraph.calls ins A c L ins L _ (Kd.C_below HR.out BL1.out) HC.out HCG.out).mono ?_); rintro e w2 ⟨v2, rfl, hr2, hb2⟩; refine ⟨_, rfl, ?_⟩; obtain ⟨A2, c2, e2⟩ := Kd.R_slice hr2; subst e2; have BL2 := Aside0.mk (below_step BL1.out hb2); have BP2 := Aside0.mk (blk_below BP.out hb2); have HR2 := Aside0.mk (Kd.R_lower hr2 BL1.out.size); clear hr2 hb2 BP hcp0 hcp1 BL1) | ((with_reducible refine gate_dst (N := 8) rfl ?_); go_loud (refine wpList_mkmap (κ := S79) (P := Try.prog) (t := 81) ?_ ?_ 79 3 encAnd wfAnd ?_; rfl; rfl; intro mb w3 hmb HM0 hb3; have HM3 := Aside0.mk HM0; have BL3 := Aside0.mk (below_step BL2.out hb3); have BP3 := Aside0.mk (blk_below BP2.out hb3); have HR3 := Aside0.mk (Kd.R_below HR2.out hb3); have GM := Aside0.mk (show w.heap.size ≤ mb by rw [hmb]; exact BL2.out.size); clear HM0 hb3 hmb BL2 BP2 HR2)) | ((with_reducible refine gate_dst (N := 10) rfl ?_); refine box_event ?hg (N := 10) ?hd (cs := #[.int .i64 ins, .slice A2 L.length c2, .map (some mb)]) (t := 104) ?hr ?_; (case hd => rfl); (case hg => rfl); (case hr => first | (go_simp; done) | (go_simp; rfl)); intro gb hg w4 hbox hb; have BG := Aside0.mk hbox; have BL4 := Aside0.mk (below_step BL3.out hb); have BP4 := Aside0.mk (blk_below BP3.out hb); have HR4 := Aside0.mk (Kd.R_below HR3.out hb); have HM4 := Aside0.mk (HM3.out.below hb HM3.out.lt); have GG := Aside0.mk (show w.heap.size ≤ gb by rw [hg]; exact BL3.out.size); clear BL3 BP3 HR3 HM3; have hcp0 : w4.cell? ⟨g1, 0, none⟩ = some (.int .i64 ins) := (blk_cell BP4.out 0).trans rfl; have hcp1 : w4.cell? ⟨g1, 1, none⟩ = some (.slice A L.length c) := (blk_cell BP4.out 1).trans rfl; clear hg hbox hb))
  clear hcp0 hcp1
  go_loopg [14] L.length (fun kq v14 wr => ∃ i : Nat, v14 = .int .i64 i ∧ Aside0 (i ≤ L.length ∧ kq = L.length - i) ∧ Aside0 (IsMp Try.prog 79 3 encAnd wfAnd wr mb (pm ins L i)) ∧ Aside0 (Kd.R k79 79 wr w.heap.size (fun _ => True) (.slice A2 L.length c2) L) ∧ Aside0 (wr.heap[gb]? = some (.cells #[.int .i64 ins, .slice A2 L.length c2, .map (some mb)] 104 (0, 0))) ∧ Aside0 (wr.heap[g1]? = some (.cells #[.int .i64 ins, .slice A L.length c] 29 (0, 0))) ∧ Aside0 (Below w.heap.size w wr))
  case atStart => exact ⟨0, rfl, ⟨by omega, by omega⟩, HM4, HR4, BG, BP4, BL4⟩
  case round =>
    clear HM4 HR4 BG BP4 BL4
    obtain ⟨i, rfl, hi, HM, HRR, BG, BP, HB⟩ := hrel
    by_cases hlt : i < L.length
    · have hd0 : decide (i < L.length) = true := decide_eq_true hlt
      have hd1 : decide ((i : Int) < (L.length : Int)) = true := decide_eq_true (by omega)
      obtain ⟨ad, e_, hx0, hx1⟩ := at_T79 HR.out (i : Int) (by omega) (by omega)
      cases e_
      replace hx0 := (HB.out.cell (World.block_lt_of_cell? w _ hx0)).trans hx0
      replace hx1 := (HB.out.cell (World.block_lt_of_cell? w _ hx1)).trans hx1
      rw [Int.toNat_natCast] at hx0 hx1
      have hw1 : Aside0 (wrap64 (ins + 1) = ins + 1) := ⟨by have := HN.out; unfold wrap64; omega⟩
      have hw2 : Aside0 (wrap64 (ins + 1 + (i : Int)) = ins + 1 + i) := ⟨by have := HN.out; have := HL.out; unfold wrap64; omega⟩
      have hw3 : Aside0 (wrap64 (2 * (ins + 1 + (i : Int))) = 2 * (ins + 1 + i)) := ⟨by have := HN.out; have := HL.out; unfold wrap64; omega⟩
      have hw4 : wrap64 ((i : Int) + 1) = (i : Int) + 1 := by have := HL.out; unfold wrap64; omega
      have hvf : Aside0 ((Lit.int .i64 (2 * (ins + 1 + (i : Int)))).wf = true) := ⟨WalkArith.wf_i64 (by have := HN.out; have := HL.out; omega)⟩
      have hml : Aside0 ((pm ins L i).length < maxLen) := ⟨by rw [pm_length]; have := HL.out; unfold maxLen; omega⟩
      have hwf := Aside0.mk (HF.out i hlt)
      go_upto_region 5 with (first | ((with_reducible refine gate_dst (N := 5) rfl ?_); refine box_event ?hg (N := 5) ?hd (cs := #[.int .i64 0, .int .i64 0]) (t := 79) ?hr ?_; (case hd => rfl); (case hg => rfl); (case hr => first | (go_simp; done) | (go_simp; rfl)); intro gx hg w5 hbox hb; have BK := Aside0.mk hbox; have BL := Aside0.mk hb; have GK := Aside0.mk (show wr.heap.size ≤ gx by rw [hg]; exact Nat.le_refl _); have hck0 : w5.cell? ⟨gx, 0, none⟩ = some (.int .i64 0) := (blk_cell BK.out 0).trans rfl; have hck1 : w5.cell? ⟨gx, 1, none⟩ = some (.int .i64 0) := (blk_cell BK.out 1).trans rfl; have hfk0 := blk_frozen BK.out 0; have hfk1 := blk_frozen BK.out 1; have hxa := Aside0.mk (BL.out.cell (World.block_lt_of_cell? wr _ hx0) |>.trans hx0); have hxb := Aside0.mk (BL.out.cell (World.block_lt_of_cell? wr _ hx1) |>.trans hx1); clear hx0 hx1; have hx0 := hxa.out; have hx1 := hxb.out; clear hxa hxb; clear hg hbox hb))
      have BW : Aside0 (Below wr.heap.size wr (((w5.setCell ⟨gx, 0, none⟩ (.int .i64 (rd_T79 L (i : Int)).f0)).setCell ⟨gx, 1, none⟩ (.int .i64 (rd_T79 L (i : Int)).f1)).drew)) := ⟨below_drew1 (below_set (below_set BL.out GK.out) GK.out)⟩
      have BK6 : Aside0 ((((w5.setCell ⟨gx, 0, none⟩ (.int .i64 (rd_T79 L (i : Int)).f0)).setCell ⟨gx, 1, none⟩ (.int .i64 (rd_T79 L (i : Int)).f1)).drew).heap[gx]? = some (.cells #[.int .i64 (rd_T79 L (i : Int)).f0, .int .i64 (rd_T79 L (i : Int)).f1] 79 (0, 0))) := ⟨blk_drew (blk_put (cs := #[.int .i64 (rd_T79 L (i : Int)).f0, .int .i64 0]) (blk_put (cs := #[.int .i64 0, .int .i64 0]) BK.out 0 _ rfl) 1 _ rfl)⟩
      have BG6 := Aside0.mk (blk_below BG.out BW.out)
      have BP6 := Aside0.mk (blk_below BP.out BW.out)
      have HM6 := Aside0.mk (HM.out.below BW.out HM.out.lt)
      have HR6 := Aside0.mk (Kd.R_below HRR.out BW.out)
      have HB6 := Aside0.mk (below_step HB.out BW.out)
      clear hck0 hck1 hfk0 hfk1 BK BL HM HRR HB BG BP
      refine start_ (n := 12) (S := fun w' => w'.cell? ⟨gb, 2, none⟩ = some (.map (some mb)) ∧ w'.cell? ⟨gx, 0, none⟩ = some (.int .i64 (rd_T79 L (i : Int)).f0) ∧ w'.cell? ⟨gx, 1, none⟩ = some (.int .i64 (rd_T79 L (i : Int)).f1) ∧ w'.cell? ⟨g1, 0, none⟩ = some (.int .i64 ins)) (ds := [11]) #[false, false, false, false, false, false, false, false, false, false, false, false] (by kernel_rfl) rfl rfl ⟨(blk_cell BG6.out 2).trans rfl, (blk_cell BK6.out 0).trans rfl, (blk_cell BK6.out 1).trans rfl, (blk_cell BP6.out 0).trans rfl⟩ (fun hHeld => ?_)
      generalize ((w5.setCell ⟨gx, 0, none⟩ (.int .i64 (rd_T79 L (i : Int)).f0)).setCell ⟨gx, 1, none⟩ (.int .i64 (rd_T79 L (i : Int)).f1)).drew = w6 at BG6 BK6 BP6 HM6 HR6 HB6 hHeld ⊢
      refine pure_ (i := 0) (N := some 19) (v := ?_) (a' := ?_) #[true, false, false, false, false, false, false, false, false, false, false, false] rfl rfl (by kernel_rfl) (fun _ _ _ h => h) (Or.inl ⟨by rfl, ?_⟩) ?_ ?_
      rotate_left
      · intro w'
        go_simp
        with_reducible rfl
      rotate_left
      · simp only [Act.put, List.setIfInBounds_toArray, List.set_cons_zero, List.set_cons_succ, i64_w, i32_w]
        rfl
      refine pure_ (i := 1) (N := some 20) (v := ?_) (a' := ?_) #[true, true, false, false, false, false, false, false, false, false, false, false] rfl rfl (by kernel_rfl) (fun _ _ _ h => h) (Or.inl ⟨by rfl, ?_⟩) ?_ ?_
      rotate_left
      · intro w'
        go_simp
        with_reducible rfl
      rotate_left
      · simp only [Act.put, List.setIfInBounds_toArray, List.set_cons_zero, List.set_cons_succ, i64_w, i32_w]
        rfl
      refine pure_ (i := 2) (N := some 21) (v := ?_) (a' := ?_) #[true, true, true, false, false, false, false, false, false, false, false, false] rfl rfl (by kernel_rfl) (fun _ _ _ h => h) (Or.inl ⟨by rfl, ?_⟩) ?_ ?_
      rotate_left
      · intro w'
        go_simp
        with_reducible rfl
      rotate_left
      · simp only [Act.put, List.setIfInBounds_toArray, List.set_cons_zero, List.set_cons_succ, i64_w, i32_w]
        rfl
      refine pure_ (i := 5) (N := some 24) (v := ?_) (a' := ?_) #[true, true, true, false, false, true, false, false, false, false, false, false] rfl rfl (by kernel_rfl) (fun _ _ _ h => h) (Or.inl ⟨by rfl, ?_⟩) ?_ ?_
      rotate_left
      · intro w'
        go_simp
        with_reducible rfl
      rotate_left
      · simp only [Act.put, List.setIfInBounds_toArray, List.set_cons_zero, List.set_cons_succ, i64_w, i32_w]
        rfl
      refine pure_ (i := 8) (N := some 27) (v := ?_) (a' := ?_) #[true, true, true, false, false, true, false, false, true, false, false, false] rfl rfl (by kernel_rfl) (fun _ _ _ h => h) (Or.inl ⟨by rfl, ?_⟩) ?_ ?_
      rotate_left
      · intro w'
        go_simp
        with_reducible rfl
      rotate_left
      · simp only [Act.put, List.setIfInBounds_toArray, List.set_cons_zero, List.set_cons_succ, i64_w, i32_w]
        rfl
      refine take_ (i := 3) (N := some 22) (v := ?_) (a' := ?_) #[true, true, true, true, false, true, false, false, true, false, false, false] rfl rfl (by kernel_rfl) (fun _ _ _ h => h) (Or.inl ⟨by rfl, ?_⟩) hHeld ?_ ?_
      rotate_left
      · rintro w' ⟨s0, s1, s2, s3⟩
        go_simp
        with_reducible rfl
      rotate_left
      · simp only [Act.put, List.setIfInBounds_toArray, List.set_cons_zero, List.set_cons_succ, i64_w, i32_w]
        rfl
      refine take_ (i := 4) (N := some 23) (v := ?_) (a' := ?_) #[true, true, true, true, true, true, false, false, true, false, false, false] rfl rfl (by kernel_rfl) (fun _ _ _ h => h) (Or.inl ⟨by rfl, ?_⟩) hHeld ?_ ?_
      rotate_left
      · rintro w' ⟨s0, s1, s2, s3⟩
        go_simp
        with_reducible rfl
      rotate_left
      · simp only [Act.put, List.setIfInBounds_toArray, List.set_cons_zero, List.set_cons_succ, i64_w, i32_w]
        rfl
      refine take_ (i := 6) (N := some 25) (v := ?_) (a' := ?_) #[true, true, true, true, true, true, true, false, true, false, false, false] rfl rfl (by kernel_rfl) (fun _ _ _ h => h) (Or.inl ⟨by rfl, ?_⟩) hHeld ?_ ?_
      rotate_left
      · rintro w' ⟨s0, s1, s2, s3⟩
        go_simp
        with_reducible rfl
      rotate_left
      · simp only [Act.put, List.setIfInBounds_toArray, List.set_cons_zero, List.set_cons_succ, i64_w, i32_w]
        rfl
      refine pure_ (i := 7) (N := some 26) (v := ?_) (a' := ?_) #[true, true, true, true, true, true, true, true, true, false, false, false] rfl rfl (by kernel_rfl) (fun _ _ _ h => h) (Or.inl ⟨by rfl, ?_⟩) ?_ ?_
      rotate_left
      · intro w'
        go_simp
        with_reducible rfl
      rotate_left
      · simp only [Act.put, List.setIfInBounds_toArray, List.set_cons_zero, List.set_cons_succ, i64_w, i32_w]
        rfl
      refine pure_ (i := 9) (N := some 28) (v := ?_) (a' := ?_) #[true, true, true, true, true, true, true, true, true, true, false, false] rfl rfl (by kernel_rfl) (fun _ _ _ h => h) (Or.inl ⟨by rfl, ?_⟩) ?_ ?_
      rotate_left
      · intro w'
        go_simp
        with_reducible rfl
      rotate_left
      · simp only [Act.put, List.setIfInBounds_toArray, List.set_cons_zero, List.set_cons_succ, i64_w, i32_w]
        rfl
      refine pure_ (i := 10) (N := some 29) (v := ?_) (a' := ?_) #[true, true, true, true, true, true, true, true, true, true, true, false] rfl rfl (by kernel_rfl) (fun _ _ _ h => h) (Or.inl ⟨by rfl, ?_⟩) ?_ ?_
      rotate_left
      · intro w'
        go_simp
        with_reducible rfl
      rotate_left
      · simp only [Act.put, List.setIfInBounds_toArray, List.set_cons_zero, List.set_cons_succ, i64_w, i32_w]
        rfl
      refine last_ (i := 11) (N := none) #[true, true, true, true, true, true, true, true, true, true, true, true] rfl rfl (by kernel_rfl) (by decide) (fun K hK => ?_)
      refine mput_step (κ := S79) (P := Try.prog) (t := 81) (k := 79) (e := 3) (m := pm ins L i) (by rfl) rfl (.tmp 22) (.tmp 23) (.tmp 29) rfl andCodec Try.underlying81 Try.underlying3 HM6.out rfl (rd_T79 L (i : Int)) rfl hwf.out (2 * (ins + 1 + (i : Int))) (by first | (show Value.int .i64 (wrap64 (2 * wrap64 (wrap64 (ins + 1) + (i : Int)))) = Value.int .i64 (2 * (ins + 1 + (i : Int))); rw [hw1.out, hw2.out, hw3.out]) | (show Value.int .i64 (wrap64 (2 * wrap64 (wrap64 (wrap64 (ins + 1)) + (i : Int)))) = Value.int .i64 (2 * (ins + 1 + (i : Int))); rw [hw1.out, hw1.out, hw2.out, hw3.out])) hvf.out hml.out ?_
      intro w7 hm7 hg7
      have HM7 := Aside0.mk hm7
      have BG7 := Aside0.mk (blk_grown BG6.out hg7 (fun e => HM6.out.ne BG6.out (Option.some.inj e).symm))
      have BP7 := Aside0.mk (blk_grown BP6.out hg7 (fun e => HM6.out.ne BP6.out (Option.some.inj e).symm))
      have HR7 : Aside0 (Kd.R k79 79 w7 w.heap.size (fun _ => True) (.slice A2 L.length c2) L) := ⟨Kd.R_mono (Kd.R_grown (Kd.R_bound HR6.out) hg7 (fun k hk e => by obtain ⟨_, _, _, q, hq, cells, hc⟩ := hk; exact HM6.out.ne hc (Option.some.inj e).symm)) (fun _ _ => trivial)⟩
      have HB7 := Aside0.mk (pw_below_grown HB6.out (some mb) HB6.out.size hg7 (fun k_ hk_ => by injection hk_ with hk_; subst hk_; exact GM.out))
      clear hm7 hg7
      refine hK.out _ _ ?_
      clear hK K
      refine done_ (by kernel_rfl) ?_

      clear hHeld
      go_wp2
      go_roundg (L.length - (i + 1))
      case measure => have := hi.out; omega
      case rel => exact ⟨i + 1, (by rw [hw4]; rfl), ⟨by have := hi.out; omega, rfl⟩, ⟨by rw [pm_succ]; exact HM7.out⟩, HR7, BG7, BP7, HB7⟩
    · have hd0 : decide (i < L.length) = false := decide_eq_false hlt
      have hd1 : decide ((i : Int) < (L.length : Int)) = false := decide_eq_false (by omega)
      go_wp2
      go_ret
      have hil : i = L.length := by have := hi.out; omega
      subst hil
      exact ⟨gb, rfl, ⟨A2, c2, mb, BG.out, HRR.out, HM.out, GG.out, GM.out⟩, HB.out⟩
def isW (ins : Int) (L : List S79) (x : Int) : Bool := decide (0 ≤ x ∧ x < 2 * (ins + 1 + L.length))
theorem isWire_eq {ins : Int} {L : List S79} (x : Int) (hin : 0 ≤ ins ∧ ins ≤ 1000) (hL : L.length ≤ 3000) : impl_Graph_isWire.f ins L x = some (isW ins L x) := by
  have e1 : impl_Graph_wires.f ins L = some (2 * (ins + 1 + L.length)) := by unfold impl_Graph_wires.f; congr 1; unfold wrap64; omega
  unfold impl_Graph_isWire.f impl_within.f isW
  rw [e1, Option.bind_some, show wrap64 (2 * (ins + 1 + (L.length : Int)) - 1) = 2 * (ins + 1 + (L.length : Int)) - 1 from by unfold wrap64; omega]
  by_cases h : x ≥ 0
  · rw [if_pos h, Option.bind_some]
    congr 1
    exact decide_eq_decide.2 (by omega)
  · rw [if_neg h, Option.bind_some]
    congr 1
    exact (decide_eq_false (by omega)).symm
def grownR (ins : Int) (L : List S79) (ws : List Int) (F : List S79 × Int) : List S79 × Int :=
  if GOk ins L ∧ (∀ i : Nat, i < ws.length → isW ins L (rd ws (i : Int)) = true) then (if F.2 < 0 then (L, -1) else F) else (L, -1)
theorem GOk.wf {ins : Int} {L : List S79} (h : GOk ins L) (i : Nat) (hi : i < L.length) : wfAnd (rd_T79 L (i : Int)) := by
  obtain ⟨h1, h2, h3⟩ := h
  obtain ⟨a, b, _, d, _⟩ := h3 i hi
  exact ⟨WalkArith.wf_i64 (by omega), WalkArith.wf_i64 (by omega)⟩
theorem IsBx.ne {w : World} {base g k : Nat} {ins : Int} {L : List S79} (h : IsBx w base g ins L) (hk : base > k) : k ≠ g := by
  obtain ⟨A, c, mb, h⟩ := h
  have := h.geg
  omega
set_option maxHeartbeats 8000000 in
set_option maxRecDepth 100000 in
theorem grown.calls (ins : Int) (A : Option Addr) (c : Nat) (L : List S79) (A1 : Option Addr) (c1 : Nat) (ws : List Int) (cf : Nat) (q : Array Value) (F : List S79 × Int) (w : World) (hr : Kd.C k79 w A L.length L) (hc : L.length ≤ c) (hL : L.length ≤ 1099511627776)
    (hr1 : Kd.C (Kd.int .i64) w A1 ws.length ws) (hc1 : ws.length ≤ c1) (hf : Enterable Try.prog cf)
    (hp : GOk ins L → (∀ i : Nat, i < ws.length → isW ins L (rd ws (i : Int)) = true) → ∀ W g w0, Below w.heap.size w W → IsBx W w0.heap.size g ins L → Below w0.heap.size w0 W → Calls Try.prog cf (#[.pointer (some ⟨g, 0, none⟩)] ++ q) W fun e W' => e = .returned (.int .i64 F.2) ∧ IsBx W' w0.heap.size g ins F.1 ∧ Below w0.heap.size w0 W' ∧ Fr g W W') :
    Calls Try.prog 72 #[.agg #[.int .i64 ins, .slice A L.length c], .slice A1 ws.length c1, .func (.func cf) #[] q] w fun e w' => ∃ v1_ : Value, e = .returned (.tuple #[.agg #[.int .i64 ins, v1_], .int .i64 (grownR ins L ws F).2]) ∧ Kd.R k79 79 w' w.heap.size (fun _ => True) v1_ (grownR ins L ws F).1 ∧ Below w.heap.size w w' := by
  obtain ⟨F1, F2⟩ := F
  have HR := Aside0.mk hr
  have HC := Aside0.mk hc
  have HR1 := Aside0.mk hr1
  have HC1 := Aside0.mk hc1
  have HP := Aside0.mk hp
  have HCG : Aside0 (impl_copyGraph.f ins L = some (ins, L)) := ⟨by unfold impl_copyGraph.f; rw [if_pos (by simp; omega)]; rfl⟩
  clear hr hc hr1 hc1 hp
  have hE : grownR ins L ws (F1, F2) = grownR ins L ws (F1, F2) := rfl
  conv at hE => rhs; unfold grownR
  dsimp only at hE
  generalize grownR ins L ws (F1, F2) = r at hE ⊢
  by_cases hg : GOk ins L
  · have HG := Aside0.mk hg
    have HN := Aside0.mk (show 0 ≤ ins ∧ ins ≤ 1000 by have := hg.1; omega)
    have HL := Aside0.mk hg.2.1
    have HWF := Aside0.mk (GOk.wf hg)
    have HOK : Aside0 (impl_GraphOk.f ins L = some true) := ⟨by unfold impl_GraphOk.f; rw [decide_eq_true hg]⟩
    have HE := Aside0.mk hE
    clear hE hg hL
    go_enter Try.func72, Try.ntmps72
    go_wp2_with (first | ((with_reducible refine gate_dst (N := 3) rfl ?_); refine box_event ?hg (N := 3) ?hd (cs := #[.int .i64 ins, .slice A L.length c]) (t := 29) ?hr ?_; (case hd => rfl); (case hg => rfl); (case hr => first | (go_simp; done) | (go_simp; rfl)); intro g1 hg w1 hbox hb; have BPa := Aside0.mk hbox; have HBa := Aside0.mk hb; have hcp0 : w1.cell? ⟨g1, 0, none⟩ = some (.int .i64 ins) := (blk_cell BPa.out 0).trans rfl; have hcp1 : w1.cell? ⟨g1, 1, none⟩ = some (.slice A L.length c) := (blk_cell BPa.out 1).trans rfl; clear hg hbox hb) | ((with_reducible refine gate_dst (N := 6) rfl ?_); refine box_event ?hg (N := 6) ?hd (cs := #[.int .i64 0, .slice none 0 0]) (t := 29) ?hr ?_; (case hd => rfl); (case hg => rfl); (case hr => first | (go_simp; done) | (go_simp; rfl)); intro g6 hg w2 hbox hb; have B6b := Aside0.mk hbox; have HBb := Aside0.mk (below_step HBa.out hb); have BPb := Aside0.mk (blk_below BPa.out hb); have G6 := Aside0.mk (show w.heap.size ≤ g6 by rw [hg]; exact HBa.out.size); have N16 := Aside0.mk (show g1 ≠ g6 by rw [hg]; exact Nat.ne_of_lt (blk_lt BPa.out)); clear hcp0 hcp1 BPa HBa; have hcp0 : w2.cell? ⟨g1, 0, none⟩ = some (.int .i64 ins) := (blk_cell BPb.out 0).trans rfl; have hcp1 : w2.cell? ⟨g1, 1, none⟩ = some (.slice A L.length c) := (blk_cell BPb.out 1).trans rfl; have hcr0 : w2.cell? ⟨g6, 0, none⟩ = some (.int .i64 0) := (blk_cell B6b.out 0).trans rfl; have hcr1 : w2.cell? ⟨g6, 1, none⟩ = some (.slice none 0 0) := (blk_cell B6b.out 1).trans rfl; have hfr0 := blk_frozen B6b.out 0; have hfr1 := blk_frozen B6b.out 1; clear hg hbox hb) | ((with_reducible refine gate_callee (f := 18) rfl ?_); (try (refine gate_guard (by rfl) ?_; dsimp only)); refine goesL_ (some 13) rfl rfl Try.func18 (by kernel_rfl) rfl #[.agg #[.int .i64 ins, .slice A L.length c]] rfl (by (try simp only [List.map_toArray, List.map_cons, List.map_nil]); first | done | rfl) ?_; (with_reducible refine (impl_GraphOk.calls ins A c L true _ (Kd.C_below HR.out HBb.out) HC.out HOK.out).mono ?_); rintro e w3 ⟨rfl, hb⟩; refine ⟨_, rfl, ?_⟩; have HBc := Aside0.mk (below_step HBb.out hb); have BPc := Aside0.mk (blk_below BPb.out hb); have B6c := Aside0.mk (blk_below B6b.out hb); clear hcp0 hcp1 hcr0 hcr1 hfr0 hfr1; clear HBb BPb B6b; have hcp0 : w3.cell? ⟨g1, 0, none⟩ = some (.int .i64 ins) := (blk_cell BPc.out 0).trans rfl; have hcp1 : w3.cell? ⟨g1, 1, none⟩ = some (.slice A L.length c) := (blk_cell BPc.out 1).trans rfl; have hcr0 : w3.cell? ⟨g6, 0, none⟩ = some (.int .i64 0) := (blk_cell B6c.out 0).trans rfl; have hcr1 : w3.cell? ⟨g6, 1, none⟩ = some (.slice none 0 0) := (blk_cell B6c.out 1).trans rfl; have hfr0 := blk_frozen B6c.out 0; have hfr1 := blk_frozen B6c.out 1; clear hb))
    clear hcp0 hcp1 hcr0 hcr1 hfr0 hfr1
    go_loopg [19] ws.length (fun kq v19 wr => ∃ i : Nat, v19 = .int .i64 i ∧ Aside0 (i ≤ ws.length ∧ kq = ws.length - i) ∧ Aside0 (∀ j : Nat, j < i → isW ins L (rd ws (j : Int)) = true) ∧ Aside0 (wr.heap[g1]? = some (.cells #[.int .i64 ins, .slice A L.length c] 29 (0, 0))) ∧ Aside0 (wr.heap[g6]? = some (.cells #[.int .i64 0, .slice none 0 0] 29 (0, 0))) ∧ Aside0 (Below w.heap.size w wr))
    case atStart => exact ⟨0, rfl, ⟨by omega, by omega⟩, ⟨fun j hj => by omega⟩, BPc, B6c, HBc⟩
    case round =>
      clear BPc B6c HBc
      obtain ⟨i, rfl, hi, HALL, BPe, B6e, HBe⟩ := hrel
      have hcp0 : wr.cell? ⟨g1, 0, none⟩ = some (.int .i64 ins) := (blk_cell BPe.out 0).trans rfl
      have hcp1 : wr.cell? ⟨g1, 1, none⟩ = some (.slice A L.length c) := (blk_cell BPe.out 1).trans rfl
      have hcr0 : wr.cell? ⟨g6, 0, none⟩ = some (.int .i64 0) := (blk_cell B6e.out 0).trans rfl
      have hcr1 : wr.cell? ⟨g6, 1, none⟩ = some (.slice none 0 0) := (blk_cell B6e.out 1).trans rfl
      have hfr0 := blk_frozen B6e.out 0
      have hfr1 := blk_frozen B6e.out 1
      have hlw := Aside0.mk (Kd.C_max HR1.out)
      by_cases hlt : i < ws.length
      · have hd0 : decide (i < ws.length) = true := decide_eq_true hlt
        have hd1 : decide ((i : Int) < (ws.length : Int)) = true := decide_eq_true (by omega)
        have hw4 : wrap64 ((i : Int) + 1) = (i : Int) + 1 := by have := hlw.out; unfold wrap64; omega
        obtain ⟨ad, e_, hx0⟩ := Kd.at_int HR1.out (i : Int) (by omega) (by omega)
        cases e_
        replace hx0 := (HBe.out.cell (World.block_lt_of_cell? w _ hx0)).trans hx0
        rw [Int.toNat_natCast] at hx0
        obtain ⟨b, hb_⟩ : ∃ b, isW ins L (rd ws (i : Int)) = b := ⟨_, rfl⟩
        have HBB := Aside0.mk hb_
        have HW : Aside0 (impl_Graph_isWire.f ins L (rd ws (i : Int)) = some b) := ⟨by rw [isWire_eq _ HN.out HL.out, hb_]⟩
        clear hb_
        cases b with
        | false =>
          go_wp2_with (first | ((with_reducible refine gate_callee (f := 63) rfl ?_); (try (refine gate_guard (by rfl) ?_; dsimp only)); refine goesL_ (some 25) rfl rfl Try.func63 (by kernel_rfl) rfl #[.agg #[.int .i64 ins, .slice A L.length c], .int .i64 (rd ws (i : Int))] rfl (by (try simp only [List.map_toArray, List.map_cons, List.map_nil]); first | done | rfl) ?_; (with_reducible refine (impl_Graph_isWire.calls ins A c L (rd ws (i : Int)) false _ (Kd.C_below HR.out HBe.out) HC.out HW.out).mono ?_); rintro e w4 ⟨rfl, hb⟩; refine ⟨_, rfl, ?_⟩; have HBd := Aside0.mk (below_step HBe.out hb); have BPd := Aside0.mk (blk_below BPe.out hb); have B6d := Aside0.mk (blk_below B6e.out hb); clear hcp0 hcp1 hcr0 hcr1 hfr0 hfr1; clear HBe BPe B6e; have hcp0 : w4.cell? ⟨g1, 0, none⟩ = some (.int .i64 ins) := (blk_cell BPd.out 0).trans rfl; have hcp1 : w4.cell? ⟨g1, 1, none⟩ = some (.slice A L.length c) := (blk_cell BPd.out 1).trans rfl; have hcr0 : w4.cell? ⟨g6, 0, none⟩ = some (.int .i64 0) := (blk_cell B6d.out 0).trans rfl; have hcr1 : w4.cell? ⟨g6, 1, none⟩ = some (.slice none 0 0) := (blk_cell B6d.out 1).trans rfl; have hfr0 := blk_frozen B6d.out 0; have hfr1 := blk_frozen B6d.out 1; clear hb) | ((with_reducible refine gate_callee (f := 102) rfl ?_); (try (refine gate_guard (by rfl) ?_; dsimp only)); refine goesL_ (some 28) rfl rfl Try.func102 (by kernel_rfl) rfl #[.agg #[.int .i64 ins, .slice A L.length c]] rfl (by (try simp only [List.map_toArray, List.map_cons, List.map_nil]); first | done | rfl) ?_; (with_reducible refine (impl_copyGraph.calls ins A c L ins L _ (Kd.C_below HR.out HBd.out) HC.out HCG.out).mono ?_); rintro e w8 ⟨v2, rfl, hr2, hb2⟩; refine ⟨_, rfl, ?_⟩; obtain ⟨A2, c2, e2⟩ := Kd.R_slice hr2; subst e2; have HRv := Aside0.mk (Kd.R_lower hr2 HBd.out.size); have HBz := Aside0.mk (below_step HBd.out hb2); have BPz := Aside0.mk (blk_below BPd.out hb2); have B6z := Aside0.mk (blk_below B6d.out hb2); clear hcp0 hcp1 hcr0 hcr1 hfr0 hfr1; clear HBd BPd B6d; have hcp0 : w8.cell? ⟨g1, 0, none⟩ = some (.int .i64 ins) := (blk_cell BPz.out 0).trans rfl; have hcp1 : w8.cell? ⟨g1, 1, none⟩ = some (.slice A L.length c) := (blk_cell BPz.out 1).trans rfl; have hcr0 : w8.cell? ⟨g6, 0, none⟩ = some (.int .i64 0) := (blk_cell B6z.out 0).trans rfl; have hcr1 : w8.cell? ⟨g6, 1, none⟩ = some (.slice none 0 0) := (blk_cell B6z.out 1).trans rfl; have hfr0 := blk_frozen B6z.out 0; have hfr1 := blk_frozen B6z.out 1; clear hr2 hb2))
          have hE := HE.out
          rw [if_neg (fun h => by have h1 := h.2 i hlt; rw [HBB.out] at h1; cases h1)] at hE
          subst hE
          have hB1 : Aside0 ((w8.setCell ⟨g6, 0, none⟩ (.int .i64 ins)).heap[g6]? = some (.cells #[.int .i64 ins, .slice none 0 0] 29 (0, 0))) := ⟨blk_put (cs := #[.int .i64 0, .slice none 0 0]) B6z.out 0 _ rfl⟩
          have hB2 : Aside0 (((w8.setCell ⟨g6, 0, none⟩ (.int .i64 ins)).setCell ⟨g6, 1, none⟩ (.slice A2 L.length c2)).heap[g6]? = some (.cells #[.int .i64 ins, .slice A2 L.length c2] 29 (0, 0))) := ⟨blk_put (cs := #[.int .i64 ins, .slice none 0 0]) hB1.out 1 _ rfl⟩
          refine bodyPost_ret (results_ct rfl _ _ g6 29 #[.int .i64 ins, .slice A2 L.length c2] (0, 0) _ rfl hB2.out Try.underlying29 rfl (by kernel_rfl)) rfl ?_
          exact ⟨.slice A2 L.length c2, rfl, Kd.R_set (Kd.R_set HRv.out B6z.out (by decide) 0 _) hB1.out (by decide) 1 _, below_set (below_set HBz.out G6.out) G6.out⟩
        | true =>
          go_wp2_with (first | ((with_reducible refine gate_callee (f := 63) rfl ?_); (try (refine gate_guard (by rfl) ?_; dsimp only)); refine goesL_ (some 25) rfl rfl Try.func63 (by kernel_rfl) rfl #[.agg #[.int .i64 ins, .slice A L.length c], .int .i64 (rd ws (i : Int))] rfl (by (try simp only [List.map_toArray, List.map_cons, List.map_nil]); first | done | rfl) ?_; (with_reducible refine (impl_Graph_isWire.calls ins A c L (rd ws (i : Int)) true _ (Kd.C_below HR.out HBe.out) HC.out HW.out).mono ?_); rintro e w4 ⟨rfl, hb⟩; refine ⟨_, rfl, ?_⟩; have HBd := Aside0.mk (below_step HBe.out hb); have BPd := Aside0.mk (blk_below BPe.out hb); have B6d := Aside0.mk (blk_below B6e.out hb); clear hcp0 hcp1 hcr0 hcr1 hfr0 hfr1; clear HBe BPe B6e; have hcp0 : w4.cell? ⟨g1, 0, none⟩ = some (.int .i64 ins) := (blk_cell BPd.out 0).trans rfl; have hcp1 : w4.cell? ⟨g1, 1, none⟩ = some (.slice A L.length c) := (blk_cell BPd.out 1).trans rfl; have hcr0 : w4.cell? ⟨g6, 0, none⟩ = some (.int .i64 0) := (blk_cell B6d.out 0).trans rfl; have hcr1 : w4.cell? ⟨g6, 1, none⟩ = some (.slice none 0 0) := (blk_cell B6d.out 1).trans rfl; have hfr0 := blk_frozen B6d.out 0; have hfr1 := blk_frozen B6d.out 1; clear hb))
          go_roundg (ws.length - (i + 1))
          case measure => have := hi.out; omega
          case rel => exact ⟨i + 1, (by first | rfl | (rw [hw4]; rfl)), ⟨by have := hi.out; omega, rfl⟩, ⟨fun j hj => by rcases Nat.lt_succ_iff_lt_or_eq.1 hj with h | rfl; exact HALL.out j h; exact HBB.out⟩, BPd, B6d, HBd⟩
      · have hd0 : decide (i < ws.length) = false := decide_eq_false hlt
        have hd1 : decide ((i : Int) < (ws.length : Int)) = false := decide_eq_false (by omega)
        have HA : Aside0 (∀ i : Nat, i < ws.length → isW ins L (rd ws (i : Int)) = true) := ⟨fun j hj => HALL.out j (by have := hi.out; omega)⟩
        by_cases c3 : F2 < 0
        · have hE := HE.out
          rw [if_pos ⟨HG.out, HA.out⟩, if_pos c3] at hE
          subst hE
          have d3 : decide (F2 < 0) = true := decide_eq_true c3
          clear c3
          go_wp2_with (first | ((with_reducible refine gate_callee (f := 85) rfl ?_); (try (refine gate_guard (by rfl) ?_; dsimp only)); refine goesL_ (some 31) rfl rfl Try.func85 (by kernel_rfl) rfl #[.agg #[.int .i64 ins, .slice A L.length c]] rfl (by (try simp only [List.map_toArray, List.map_cons, List.map_nil]); first | done | rfl) ?_; (with_reducible refine (newBuilder.calls ins A c L _ (Kd.C_below HR.out HBe.out) HC.out HN.out HL.out HWF.out).mono ?_); rintro e w5 ⟨g, rfl, hI, hb⟩; refine ⟨_, rfl, ?_⟩; have HBf := Aside0.mk (below_step HBe.out hb); have HI := Aside0.mk hI; have HJ := Aside0.mk hb; have GN := Aside0.mk (hI.ne (blk_lt BPe.out)); have GN6 := Aside0.mk (hI.ne (blk_lt B6e.out)); have BPf := Aside0.mk (blk_below BPe.out hb); have B6f := Aside0.mk (blk_below B6e.out hb); clear hcp0 hcp1 hcr0 hcr1 hfr0 hfr1; clear BPe B6e; have hcp0 : w5.cell? ⟨g1, 0, none⟩ = some (.int .i64 ins) := (blk_cell BPf.out 0).trans rfl; have hcp1 : w5.cell? ⟨g1, 1, none⟩ = some (.slice A L.length c) := (blk_cell BPf.out 1).trans rfl; have hcr0 : w5.cell? ⟨g6, 0, none⟩ = some (.int .i64 0) := (blk_cell B6f.out 0).trans rfl; have hcr1 : w5.cell? ⟨g6, 1, none⟩ = some (.slice none 0 0) := (blk_cell B6f.out 1).trans rfl; have hfr0 := blk_frozen B6f.out 0; have hfr1 := blk_frozen B6f.out 1; clear hb hI) | ((with_reducible refine gate_calleeV (q := .tmp 32) rfl ?_); refine goesV_ (some 34) rfl rfl hf (by first | rfl | (go_simp; done)) #[.pointer (some ⟨g, 0, none⟩)] rfl (by (try simp only [List.map_toArray, List.map_cons, List.map_nil]); first | done | rfl) ?_; (with_reducible refine (HP.out HG.out HA.out _ g wr HBf.out HI.out HJ.out).mono ?_); rintro e w9 ⟨rfl, hI9, hB9, hF9⟩; refine ⟨_, rfl, ?_⟩; obtain ⟨A9, c9, mb, hI9⟩ := hI9; have BG9 := Aside0.mk hI9.blk; have HR9 := Aside0.mk (Kd.R_lower hI9.row HBe.out.size); have HBh := Aside0.mk (below_step HBe.out hB9); have BPh := Aside0.mk (hF9 g1 _ 29 GN.out (by decide) BPf.out); have B6h := Aside0.mk (hF9 g6 _ 29 GN6.out (by decide) B6f.out); clear hI9 hB9 hF9; clear hcp0 hcp1 hcr0 hcr1 hfr0 hfr1; have hcp0 : w9.cell? ⟨g1, 0, none⟩ = some (.int .i64 ins) := (blk_cell BPh.out 0).trans rfl; have hcp1 : w9.cell? ⟨g1, 1, none⟩ = some (.slice A L.length c) := (blk_cell BPh.out 1).trans rfl; have hcr0 : w9.cell? ⟨g6, 0, none⟩ = some (.int .i64 0) := (blk_cell B6h.out 0).trans rfl; have hcr1 : w9.cell? ⟨g6, 1, none⟩ = some (.slice none 0 0) := (blk_cell B6h.out 1).trans rfl; have hfr0 := blk_frozen B6h.out 0; have hfr1 := blk_frozen B6h.out 1; have hcg0 : w9.cell? ⟨g, 0, none⟩ = some (.int .i64 ins) := (blk_cell BG9.out 0).trans rfl; have hcg1 : w9.cell? ⟨g, 1, none⟩ = some (.slice A9 F1.length c9) := (blk_cell BG9.out 1).trans rfl) | ((with_reducible refine gate_callee (f := 102) rfl ?_); (try (refine gate_guard (by rfl) ?_; dsimp only)); refine goesL_ (some 38) rfl rfl Try.func102 (by kernel_rfl) rfl #[.agg #[.int .i64 ins, .slice A L.length c]] rfl (by (try simp only [List.map_toArray, List.map_cons, List.map_nil]); first | done | rfl) ?_; (with_reducible refine (impl_copyGraph.calls ins A c L ins L _ (Kd.C_below HR.out HBh.out) HC.out HCG.out).mono ?_); rintro e w8 ⟨v2, rfl, hr2, hb2⟩; refine ⟨_, rfl, ?_⟩; obtain ⟨A2, c2, e2⟩ := Kd.R_slice hr2; subst e2; have HRv := Aside0.mk (Kd.R_lower hr2 HBh.out.size); have HBz := Aside0.mk (below_step HBh.out hb2); have BPz := Aside0.mk (blk_below BPh.out hb2); have B6z := Aside0.mk (blk_below B6h.out hb2); clear hcp0 hcp1 hcr0 hcr1 hfr0 hfr1; clear HBh BPh B6h; have hcp0 : w8.cell? ⟨g1, 0, none⟩ = some (.int .i64 ins) := (blk_cell BPz.out 0).trans rfl; have hcp1 : w8.cell? ⟨g1, 1, none⟩ = some (.slice A L.length c) := (blk_cell BPz.out 1).trans rfl; have hcr0 : w8.cell? ⟨g6, 0, none⟩ = some (.int .i64 0) := (blk_cell B6z.out 0).trans rfl; have hcr1 : w8.cell? ⟨g6, 1, none⟩ = some (.slice none 0 0) := (blk_cell B6z.out 1).trans rfl; have hfr0 := blk_frozen B6z.out 0; have hfr1 := blk_frozen B6z.out 1; clear hr2 hb2))
          have hB1 : Aside0 ((w8.setCell ⟨g6, 0, none⟩ (.int .i64 ins)).heap[g6]? = some (.cells #[.int .i64 ins, .slice none 0 0] 29 (0, 0))) := ⟨blk_put (cs := #[.int .i64 0, .slice none 0 0]) B6z.out 0 _ rfl⟩
          have hB2 : Aside0 (((w8.setCell ⟨g6, 0, none⟩ (.int .i64 ins)).setCell ⟨g6, 1, none⟩ (.slice A2 L.length c2)).heap[g6]? = some (.cells #[.int .i64 ins, .slice A2 L.length c2] 29 (0, 0))) := ⟨blk_put (cs := #[.int .i64 ins, .slice none 0 0]) hB1.out 1 _ rfl⟩
          refine bodyPost_ret (results_ct rfl _ _ g6 29 #[.int .i64 ins, .slice A2 L.length c2] (0, 0) _ rfl hB2.out Try.underlying29 rfl (by kernel_rfl)) rfl ?_
          exact ⟨.slice A2 L.length c2, rfl, Kd.R_set (Kd.R_set HRv.out B6z.out (by decide) 0 _) hB1.out (by decide) 1 _, below_set (below_set HBz.out G6.out) G6.out⟩
        · have hE := HE.out
          rw [if_pos ⟨HG.out, HA.out⟩, if_neg c3] at hE
          subst hE
          have d3 : decide (F2 < 0) = false := decide_eq_false c3
          clear c3
          go_wp2_with (first | ((with_reducible refine gate_callee (f := 85) rfl ?_); (try (refine gate_guard (by rfl) ?_; dsimp only)); refine goesL_ (some 31) rfl rfl Try.func85 (by kernel_rfl) rfl #[.agg #[.int .i64 ins, .slice A L.length c]] rfl (by (try simp only [List.map_toArray, List.map_cons, List.map_nil]); first | done | rfl) ?_; (with_reducible refine (newBuilder.calls ins A c L _ (Kd.C_below HR.out HBe.out) HC.out HN.out HL.out HWF.out).mono ?_); rintro e w5 ⟨g, rfl, hI, hb⟩; refine ⟨_, rfl, ?_⟩; have HBf := Aside0.mk (below_step HBe.out hb); have HI := Aside0.mk hI; have HJ := Aside0.mk hb; have GN := Aside0.mk (hI.ne (blk_lt BPe.out)); have GN6 := Aside0.mk (hI.ne (blk_lt B6e.out)); have BPf := Aside0.mk (blk_below BPe.out hb); have B6f := Aside0.mk (blk_below B6e.out hb); clear hcp0 hcp1 hcr0 hcr1 hfr0 hfr1; clear BPe B6e; have hcp0 : w5.cell? ⟨g1, 0, none⟩ = some (.int .i64 ins) := (blk_cell BPf.out 0).trans rfl; have hcp1 : w5.cell? ⟨g1, 1, none⟩ = some (.slice A L.length c) := (blk_cell BPf.out 1).trans rfl; have hcr0 : w5.cell? ⟨g6, 0, none⟩ = some (.int .i64 0) := (blk_cell B6f.out 0).trans rfl; have hcr1 : w5.cell? ⟨g6, 1, none⟩ = some (.slice none 0 0) := (blk_cell B6f.out 1).trans rfl; have hfr0 := blk_frozen B6f.out 0; have hfr1 := blk_frozen B6f.out 1; clear hb hI) | ((with_reducible refine gate_calleeV (q := .tmp 32) rfl ?_); refine goesV_ (some 34) rfl rfl hf (by first | rfl | (go_simp; done)) #[.pointer (some ⟨g, 0, none⟩)] rfl (by (try simp only [List.map_toArray, List.map_cons, List.map_nil]); first | done | rfl) ?_; (with_reducible refine (HP.out HG.out HA.out _ g wr HBf.out HI.out HJ.out).mono ?_); rintro e w9 ⟨rfl, hI9, hB9, hF9⟩; refine ⟨_, rfl, ?_⟩; obtain ⟨A9, c9, mb, hI9⟩ := hI9; have BG9 := Aside0.mk hI9.blk; have HR9 := Aside0.mk (Kd.R_lower hI9.row HBe.out.size); have HBh := Aside0.mk (below_step HBe.out hB9); have BPh := Aside0.mk (hF9 g1 _ 29 GN.out (by decide) BPf.out); have B6h := Aside0.mk (hF9 g6 _ 29 GN6.out (by decide) B6f.out); clear hI9 hB9 hF9; clear hcp0 hcp1 hcr0 hcr1 hfr0 hfr1; have hcp0 : w9.cell? ⟨g1, 0, none⟩ = some (.int .i64 ins) := (blk_cell BPh.out 0).trans rfl; have hcp1 : w9.cell? ⟨g1, 1, none⟩ = some (.slice A L.length c) := (blk_cell BPh.out 1).trans rfl; have hcr0 : w9.cell? ⟨g6, 0, none⟩ = some (.int .i64 0) := (blk_cell B6h.out 0).trans rfl; have hcr1 : w9.cell? ⟨g6, 1, none⟩ = some (.slice none 0 0) := (blk_cell B6h.out 1).trans rfl; have hfr0 := blk_frozen B6h.out 0; have hfr1 := blk_frozen B6h.out 1; have hcg0 : w9.cell? ⟨g, 0, none⟩ = some (.int .i64 ins) := (blk_cell BG9.out 0).trans rfl; have hcg1 : w9.cell? ⟨g, 1, none⟩ = some (.slice A9 F1.length c9) := (blk_cell BG9.out 1).trans rfl))
          have hB1 : Aside0 ((w9.setCell ⟨g6, 0, none⟩ (.int .i64 ins)).heap[g6]? = some (.cells #[.int .i64 ins, .slice none 0 0] 29 (0, 0))) := ⟨blk_put (cs := #[.int .i64 0, .slice none 0 0]) B6h.out 0 _ rfl⟩
          have hB2 : Aside0 (((w9.setCell ⟨g6, 0, none⟩ (.int .i64 ins)).setCell ⟨g6, 1, none⟩ (.slice A9 F1.length c9)).heap[g6]? = some (.cells #[.int .i64 ins, .slice A9 F1.length c9] 29 (0, 0))) := ⟨blk_put (cs := #[.int .i64 ins, .slice none 0 0]) hB1.out 1 _ rfl⟩
          refine bodyPost_ret (results_ct rfl _ _ g6 29 #[.int .i64 ins, .slice A9 F1.length c9] (0, 0) _ rfl hB2.out Try.underlying29 rfl (by kernel_rfl)) rfl ?_
          exact ⟨.slice A9 F1.length c9, rfl, Kd.R_set (Kd.R_set HR9.out B6h.out (by decide) 0 _) hB1.out (by decide) 1 _, below_set (below_set HBh.out G6.out) G6.out⟩
  · have HOK : Aside0 (impl_GraphOk.f ins L = some false) := ⟨by unfold impl_GraphOk.f; rw [decide_eq_false hg]⟩
    rw [if_neg (fun h => hg h.1)] at hE
    subst hE
    clear hg
    go_enter Try.func72, Try.ntmps72
    go_wp2_with (first | ((with_reducible refine gate_dst (N := 3) rfl ?_); refine box_event ?hg (N := 3) ?hd (cs := #[.int .i64 ins, .slice A L.length c]) (t := 29) ?hr ?_; (case hd => rfl); (case hg => rfl); (case hr => first | (go_simp; done) | (go_simp; rfl)); intro g1 hg w1 hbox hb; have BPa := Aside0.mk hbox; have HBa := Aside0.mk hb; have hcp0 : w1.cell? ⟨g1, 0, none⟩ = some (.int .i64 ins) := (blk_cell BPa.out 0).trans rfl; have hcp1 : w1.cell? ⟨g1, 1, none⟩ = some (.slice A L.length c) := (blk_cell BPa.out 1).trans rfl; clear hg hbox hb) | ((with_reducible refine gate_dst (N := 6) rfl ?_); refine box_event ?hg (N := 6) ?hd (cs := #[.int .i64 0, .slice none 0 0]) (t := 29) ?hr ?_; (case hd => rfl); (case hg => rfl); (case hr => first | (go_simp; done) | (go_simp; rfl)); intro g6 hg w2 hbox hb; have B6b := Aside0.mk hbox; have HBb := Aside0.mk (below_step HBa.out hb); have BPb := Aside0.mk (blk_below BPa.out hb); have G6 := Aside0.mk (show w.heap.size ≤ g6 by rw [hg]; exact HBa.out.size); have N16 := Aside0.mk (show g1 ≠ g6 by rw [hg]; exact Nat.ne_of_lt (blk_lt BPa.out)); clear hcp0 hcp1 BPa HBa; have hcp0 : w2.cell? ⟨g1, 0, none⟩ = some (.int .i64 ins) := (blk_cell BPb.out 0).trans rfl; have hcp1 : w2.cell? ⟨g1, 1, none⟩ = some (.slice A L.length c) := (blk_cell BPb.out 1).trans rfl; have hcr0 : w2.cell? ⟨g6, 0, none⟩ = some (.int .i64 0) := (blk_cell B6b.out 0).trans rfl; have hcr1 : w2.cell? ⟨g6, 1, none⟩ = some (.slice none 0 0) := (blk_cell B6b.out 1).trans rfl; have hfr0 := blk_frozen B6b.out 0; have hfr1 := blk_frozen B6b.out 1; clear hg hbox hb) | ((with_reducible refine gate_callee (f := 18) rfl ?_); (try (refine gate_guard (by rfl) ?_; dsimp only)); refine goesL_ (some 13) rfl rfl Try.func18 (by kernel_rfl) rfl #[.agg #[.int .i64 ins, .slice A L.length c]] rfl (by (try simp only [List.map_toArray, List.map_cons, List.map_nil]); first | done | rfl) ?_; (with_reducible refine (impl_GraphOk.calls ins A c L false _ (Kd.C_below HR.out HBb.out) HC.out HOK.out).mono ?_); rintro e w3 ⟨rfl, hb⟩; refine ⟨_, rfl, ?_⟩; have HBc := Aside0.mk (below_step HBb.out hb); have BPc := Aside0.mk (blk_below BPb.out hb); have B6c := Aside0.mk (blk_below B6b.out hb); clear hcp0 hcp1 hcr0 hcr1 hfr0 hfr1; clear HBb BPb B6b; have hcp0 : w3.cell? ⟨g1, 0, none⟩ = some (.int .i64 ins) := (blk_cell BPc.out 0).trans rfl; have hcp1 : w3.cell? ⟨g1, 1, none⟩ = some (.slice A L.length c) := (blk_cell BPc.out 1).trans rfl; have hcr0 : w3.cell? ⟨g6, 0, none⟩ = some (.int .i64 0) := (blk_cell B6c.out 0).trans rfl; have hcr1 : w3.cell? ⟨g6, 1, none⟩ = some (.slice none 0 0) := (blk_cell B6c.out 1).trans rfl; have hfr0 := blk_frozen B6c.out 0; have hfr1 := blk_frozen B6c.out 1; clear hb) | ((with_reducible refine gate_callee (f := 102) rfl ?_); (try (refine gate_guard (by rfl) ?_; dsimp only)); refine goesL_ (some 16) rfl rfl Try.func102 (by kernel_rfl) rfl #[.agg #[.int .i64 ins, .slice A L.length c]] rfl (by (try simp only [List.map_toArray, List.map_cons, List.map_nil]); first | done | rfl) ?_; (with_reducible refine (impl_copyGraph.calls ins A c L ins L _ (Kd.C_below HR.out HBc.out) HC.out HCG.out).mono ?_); rintro e w8 ⟨v2, rfl, hr2, hb2⟩; refine ⟨_, rfl, ?_⟩; obtain ⟨A2, c2, e2⟩ := Kd.R_slice hr2; subst e2; have HRv := Aside0.mk (Kd.R_lower hr2 HBc.out.size); have HBz := Aside0.mk (below_step HBc.out hb2); have BPz := Aside0.mk (blk_below BPc.out hb2); have B6z := Aside0.mk (blk_below B6c.out hb2); clear hcp0 hcp1 hcr0 hcr1 hfr0 hfr1; clear HBc BPc B6c; have hcp0 : w8.cell? ⟨g1, 0, none⟩ = some (.int .i64 ins) := (blk_cell BPz.out 0).trans rfl; have hcp1 : w8.cell? ⟨g1, 1, none⟩ = some (.slice A L.length c) := (blk_cell BPz.out 1).trans rfl; have hcr0 : w8.cell? ⟨g6, 0, none⟩ = some (.int .i64 0) := (blk_cell B6z.out 0).trans rfl; have hcr1 : w8.cell? ⟨g6, 1, none⟩ = some (.slice none 0 0) := (blk_cell B6z.out 1).trans rfl; have hfr0 := blk_frozen B6z.out 0; have hfr1 := blk_frozen B6z.out 1; clear hr2 hb2))
    have hB1 : Aside0 ((w8.setCell ⟨g6, 0, none⟩ (.int .i64 ins)).heap[g6]? = some (.cells #[.int .i64 ins, .slice none 0 0] 29 (0, 0))) := ⟨blk_put (cs := #[.int .i64 0, .slice none 0 0]) B6z.out 0 _ rfl⟩
    have hB2 : Aside0 (((w8.setCell ⟨g6, 0, none⟩ (.int .i64 ins)).setCell ⟨g6, 1, none⟩ (.slice A2 L.length c2)).heap[g6]? = some (.cells #[.int .i64 ins, .slice A2 L.length c2] 29 (0, 0))) := ⟨blk_put (cs := #[.int .i64 ins, .slice none 0 0]) hB1.out 1 _ rfl⟩
    refine bodyPost_ret (results_ct rfl _ _ g6 29 #[.int .i64 ins, .slice A2 L.length c2] (0, 0) _ rfl hB2.out Try.underlying29 rfl (by kernel_rfl)) rfl ?_
    exact ⟨.slice A2 L.length c2, rfl, Kd.R_set (Kd.R_set HRv.out B6z.out (by decide) 0 _) hB1.out (by decide) 1 _, below_set (below_set HBz.out G6.out) G6.out⟩
theorem GOk.ins {ins : Int} {L : List S79} (h : GOk ins L) : 0 ≤ ins ∧ ins ≤ 1000 := by
  have := h.1
  omega
theorem GOk.len {ins : Int} {L : List S79} (h : GOk ins L) : L.length ≤ 3000 := h.2.1
theorem isW_bd {ins : Int} {L : List S79} {x : Int} (h : isW ins L x = true) (hin : 0 ≤ ins ∧ ins ≤ 1000) (hL : L.length ≤ 3000) : 0 ≤ x ∧ x ≤ 1048575 := by
  have := of_decide_eq_true h
  omega
set_option maxHeartbeats 8000000 in
set_option maxRecDepth 100000 in
theorem GraphAnd_1.calls (w0 : World) (g : Nat) (ins : Int) (L : List S79) (a1 a2 : Int) (p0 p1 : Nat) (w : World) (hp0 : w.heap[p0]? = some (.cells #[.int .i64 a1] 3 (0, 0))) (hp1 : w.heap[p1]? = some (.cells #[.int .i64 a2] 3 (0, 0))) (hI : IsBx w w0.heap.size g ins L) (hB : Below w0.heap.size w0 w)
    (ka1 : 0 ≤ a1 ∧ a1 ≤ 1048575) (ka2 : 0 ≤ a2 ∧ a2 ≤ 1048575) (hin : 0 ≤ ins ∧ ins ≤ 1000) (hL : L.length ≤ 3000) :
    Calls Try.prog 73 #[.pointer (some ⟨g, 0, none⟩), .pointer (some ⟨p0, 0, none⟩), .pointer (some ⟨p1, 0, none⟩)] w fun e w' => e = .returned (.int .i64 (andR ins L a1 a2).2) ∧ IsBx w' w0.heap.size g ins (andR ins L a1 a2).1 ∧ Below w0.heap.size w0 w' ∧ Fr g w w' := by
  have HI := Aside0.mk hI
  have HB := Aside0.mk hB
  have Ka1 := Aside0.mk ka1
  have Ka2 := Aside0.mk ka2
  clear ka1 ka2
  have HN := Aside0.mk hin
  have HL := Aside0.mk hL
  clear hI hB hin hL
  have hcp0 : w.cell? ⟨p0, 0, none⟩ = some (.int .i64 a1) := (blk_cell hp0 0).trans rfl
  have hcp1 : w.cell? ⟨p1, 0, none⟩ = some (.int .i64 a2) := (blk_cell hp1 0).trans rfl
  clear hp0 hp1
  generalize hE : andR ins L a1 a2 = r
  have HE := Aside0.mk hE
  clear hE
  go_enter Try.func73, Try.ntmps73
  go_wp2_with (first | ((with_reducible refine gate_callee (f := 74) rfl ?_); (try (refine gate_guard (by rfl) ?_; dsimp only)); refine goesL_ (some 8) rfl rfl Try.func74 (by kernel_rfl) rfl #[.pointer (some ⟨g, 0, none⟩), .int .i64 a1, .int .i64 a2] rfl (by (try simp only [List.map_toArray, List.map_cons, List.map_nil]); first | done | rfl) ?_; (with_reducible refine (builder_and.calls w0 g ins L a1 a2 _ HI.out HB.out Ka1.out Ka2.out HN.out HL.out).mono ?_); rw [HE.out]; rintro e w3 ⟨rfl, hI3, hB3, hF3⟩; refine ⟨_, rfl, ?_⟩; have HI3 := Aside0.mk hI3; have HB3 := Aside0.mk hB3; have HF3 := Aside0.mk hF3; clear hI3 hB3 hF3))
  go_ret
  exact ⟨rfl, HI3.out, HB3.out, HF3.out⟩
set_option maxHeartbeats 8000000 in
set_option maxRecDepth 100000 in
theorem GraphOr_1.calls (w0 : World) (g : Nat) (ins : Int) (L : List S79) (a1 a2 : Int) (p0 p1 : Nat) (w : World) (hp0 : w.heap[p0]? = some (.cells #[.int .i64 a1] 3 (0, 0))) (hp1 : w.heap[p1]? = some (.cells #[.int .i64 a2] 3 (0, 0))) (hI : IsBx w w0.heap.size g ins L) (hB : Below w0.heap.size w0 w)
    (ka1 : 0 ≤ a1 ∧ a1 ≤ 1048575) (ka2 : 0 ≤ a2 ∧ a2 ≤ 1048575) (hin : 0 ≤ ins ∧ ins ≤ 1000) (hL : L.length ≤ 3000) :
    Calls Try.prog 78 #[.pointer (some ⟨g, 0, none⟩), .pointer (some ⟨p0, 0, none⟩), .pointer (some ⟨p1, 0, none⟩)] w fun e w' => e = .returned (.int .i64 (orR ins L a1 a2).2) ∧ IsBx w' w0.heap.size g ins (orR ins L a1 a2).1 ∧ Below w0.heap.size w0 w' ∧ Fr g w w' := by
  have HI := Aside0.mk hI
  have HB := Aside0.mk hB
  have Ka1 := Aside0.mk ka1
  have Ka2 := Aside0.mk ka2
  clear ka1 ka2
  have HN := Aside0.mk hin
  have HL := Aside0.mk hL
  clear hI hB hin hL
  have hcp0 : w.cell? ⟨p0, 0, none⟩ = some (.int .i64 a1) := (blk_cell hp0 0).trans rfl
  have hcp1 : w.cell? ⟨p1, 0, none⟩ = some (.int .i64 a2) := (blk_cell hp1 0).trans rfl
  clear hp0 hp1
  generalize hE : orR ins L a1 a2 = r
  have HE := Aside0.mk hE
  clear hE
  go_enter Try.func78, Try.ntmps78
  go_wp2_with (first | ((with_reducible refine gate_callee (f := 79) rfl ?_); (try (refine gate_guard (by rfl) ?_; dsimp only)); refine goesL_ (some 8) rfl rfl Try.func79 (by kernel_rfl) rfl #[.pointer (some ⟨g, 0, none⟩), .int .i64 a1, .int .i64 a2] rfl (by (try simp only [List.map_toArray, List.map_cons, List.map_nil]); first | done | rfl) ?_; (with_reducible refine (builder_or.calls w0 g ins L a1 a2 _ HI.out HB.out Ka1.out Ka2.out HN.out HL.out).mono ?_); rw [HE.out]; rintro e w3 ⟨rfl, hI3, hB3, hF3⟩; refine ⟨_, rfl, ?_⟩; have HI3 := Aside0.mk hI3; have HB3 := Aside0.mk hB3; have HF3 := Aside0.mk hF3; clear hI3 hB3 hF3))
  go_ret
  exact ⟨rfl, HI3.out, HB3.out, HF3.out⟩
set_option maxHeartbeats 8000000 in
set_option maxRecDepth 100000 in
theorem GraphIf_1.calls (w0 : World) (g : Nat) (ins : Int) (L : List S79) (a1 a2 a3 : Int) (p0 p1 p2 : Nat) (w : World) (hp0 : w.heap[p0]? = some (.cells #[.int .i64 a1] 3 (0, 0))) (hp1 : w.heap[p1]? = some (.cells #[.int .i64 a2] 3 (0, 0))) (hp2 : w.heap[p2]? = some (.cells #[.int .i64 a3] 3 (0, 0))) (hI : IsBx w w0.heap.size g ins L) (hB : Below w0.heap.size w0 w)
    (ka1 : 0 ≤ a1 ∧ a1 ≤ 1048575) (ka2 : 0 ≤ a2 ∧ a2 ≤ 1048575) (ka3 : 0 ≤ a3 ∧ a3 ≤ 1048575) (hin : 0 ≤ ins ∧ ins ≤ 1000) (hL : L.length ≤ 3000) :
    Calls Try.prog 81 #[.pointer (some ⟨g, 0, none⟩), .pointer (some ⟨p0, 0, none⟩), .pointer (some ⟨p1, 0, none⟩), .pointer (some ⟨p2, 0, none⟩)] w fun e w' => e = .returned (.int .i64 (pickR ins L a1 a2 a3).2) ∧ IsBx w' w0.heap.size g ins (pickR ins L a1 a2 a3).1 ∧ Below w0.heap.size w0 w' ∧ Fr g w w' := by
  have HI := Aside0.mk hI
  have HB := Aside0.mk hB
  have Ka1 := Aside0.mk ka1
  have Ka2 := Aside0.mk ka2
  have Ka3 := Aside0.mk ka3
  clear ka1 ka2 ka3
  have HN := Aside0.mk hin
  have HL := Aside0.mk hL
  clear hI hB hin hL
  have hcp0 : w.cell? ⟨p0, 0, none⟩ = some (.int .i64 a1) := (blk_cell hp0 0).trans rfl
  have hcp1 : w.cell? ⟨p1, 0, none⟩ = some (.int .i64 a2) := (blk_cell hp1 0).trans rfl
  have hcp2 : w.cell? ⟨p2, 0, none⟩ = some (.int .i64 a3) := (blk_cell hp2 0).trans rfl
  clear hp0 hp1 hp2
  generalize hE : pickR ins L a1 a2 a3 = r
  have HE := Aside0.mk hE
  clear hE
  go_enter Try.func81, Try.ntmps81
  go_wp2_with (first | ((with_reducible refine gate_callee (f := 82) rfl ?_); (try (refine gate_guard (by rfl) ?_; dsimp only)); refine goesL_ (some 10) rfl rfl Try.func82 (by kernel_rfl) rfl #[.pointer (some ⟨g, 0, none⟩), .int .i64 a1, .int .i64 a2, .int .i64 a3] rfl (by (try simp only [List.map_toArray, List.map_cons, List.map_nil]); first | done | rfl) ?_; (with_reducible refine (builder_pick.calls w0 g ins L a1 a2 a3 _ HI.out HB.out Ka1.out Ka2.out Ka3.out HN.out HL.out).mono ?_); rw [HE.out]; rintro e w3 ⟨rfl, hI3, hB3, hF3⟩; refine ⟨_, rfl, ?_⟩; have HI3 := Aside0.mk hI3; have HB3 := Aside0.mk hB3; have HF3 := Aside0.mk hF3; clear hI3 hB3 hF3))
  go_ret
  exact ⟨rfl, HI3.out, HB3.out, HF3.out⟩
theorem IsBx.below {w w1 : World} {base g : Nat} {ins : Int} {L : List S79} (h : IsBx w base g ins L) (hb : Below w.heap.size w w1) : IsBx w1 base g ins L := by
  obtain ⟨A, c, mb, h⟩ := h
  exact ⟨A, c, mb, blk_below h.blk hb, Kd.R_below h.row hb, h.map.below hb h.map.lt, h.geg, h.gem⟩
theorem IsBx.lt {w : World} {base g : Nat} {ins : Int} {L : List S79} (h : IsBx w base g ins L) : g < w.heap.size := by
  obtain ⟨A, c, mb, h⟩ := h
  exact blk_lt h.blk
end Go.Proofs.Yteagogcpbcickaa.G
namespace Go.Proofs.Yteagogcpbcickaa.G
open Go.RowKit Go.Proofs.YteagogcpbcickaaW.PrintWords Go.Proofs.YteagogcpbcickaaW.PrintLast Go.Proofs.YteagogcpbcickaaW.PrintMore
attribute [local go_sem] max2_int min2_int max_two min_two max_three min_three max_four min_four   -- for this text's walks alone
set_option linter.unusedVariables false
set_option linter.unusedSimpArgs false
open Go.Proofs.Yteagogcpbcickaa.Fv
open Go.Proofs.Yteagogcpbcickaa.Mp Go.Proofs.Yteagogcpbcickaa.Fv
def impl_GraphAnd.f (a0_0 : Int) (l0_1 : List S79) (a1 a2 : Int) : Option (Int × List S79 × Int) :=
  if l0_1.length ≤ 1099511627776 then some (a0_0, (grownR a0_0 l0_1 [a1, a2] (andR a0_0 l0_1 a1 a2)).1, (grownR a0_0 l0_1 [a1, a2] (andR a0_0 l0_1 a1 a2)).2) else none
set_option maxHeartbeats 8000000 in
set_option maxRecDepth 100000 in
theorem impl_GraphAnd.calls (a0_0 : Int) (A0_1 : Option Addr) (c0_1 : Nat) (l0_1 : List S79) (a1 a2 : Int) (r1 : Int) (r2 : List S79) (r3 : Int) (w : World) (hr0_1 : Kd.C k79 w A0_1 l0_1.length l0_1) (hc0_1 : l0_1.length ≤ c0_1) (h : impl_GraphAnd.f a0_0 l0_1 a1 a2 = some (r1, r2, r3)) :
    Calls Try.prog 30 #[.agg #[.int .i64 a0_0, .slice A0_1 l0_1.length c0_1], .int .i64 a1, .int .i64 a2] w fun e w' => ∃ v1_ : Value, e = .returned (.tuple #[.agg #[.int .i64 r1, v1_], .int .i64 r3]) ∧ Kd.R k79 79 w' w.heap.size (fun _ => True) v1_ r2 ∧ Below w.heap.size w w' := by
  have hmf : ∀ (fn_ : Fn) (first_ cap_ : Array Value) (w_ : World), (Instr.makeFunc fn_ first_ cap_).run Try.prog w_ = .ok (.func fn_ first_ cap_) w_ := fun _ _ _ _ => rfl
  have HR := Aside0.mk hr0_1
  have HC := Aside0.mk hc0_1
  clear hr0_1 hc0_1
  unfold impl_GraphAnd.f at h
  by_cases hl : l0_1.length ≤ 1099511627776
  case neg => rw [if_neg hl] at h; cases h
  rw [if_pos hl] at h
  have HL := Aside0.mk hl
  clear hl
  generalize hE : grownR a0_0 l0_1 [a1, a2] (andR a0_0 l0_1 a1 a2) = r at h
  have HE := Aside0.mk hE
  clear hE
  simp only [Option.some.injEq, Prod.mk.injEq] at h
  obtain ⟨rfl, rfl, rfl⟩ := h
  go_enter Try.func30, Try.ntmps30
  go_wp2_with (first | ((with_reducible refine gate_dst (N := 3) rfl ?_); refine box_event ?hg (N := 3) ?hd (cs := #[.int .i64 a0_0, .slice A0_1 l0_1.length c0_1]) (t := 29) ?hr ?_; (case hd => rfl); (case hg => rfl); (case hr => first | (go_simp; done) | (go_simp; rfl)); intro gt hg w1 hbox hb; have HB1 := Aside0.mk hb; have Bgt_1 := Aside0.mk hbox; have hcgt0 : w1.cell? ⟨gt, 0, none⟩ = some (.int .i64 a0_0) := (blk_cell Bgt_1.out 0).trans rfl; have hcgt1 : w1.cell? ⟨gt, 1, none⟩ = some (.slice A0_1 l0_1.length c0_1) := (blk_cell Bgt_1.out 1).trans rfl; clear hg hbox hb) | ((with_reducible refine gate_dst (N := 4) rfl ?_); refine box_event ?hg (N := 4) ?hd (cs := #[.int .i64 a1]) (t := 3) ?hr ?_; (case hd => rfl); (case hg => rfl); (case hr => first | (go_simp; done) | (go_simp; rfl)); intro p0 hg w2 hbox hb; have HB2 := Aside0.mk (below_step HB1.out hb); have Bgt_2 := Aside0.mk (blk_below Bgt_1.out hb); have Bp0_2 := Aside0.mk hbox; clear Bgt_1 HB1; clear hcgt0 hcgt1; have hcgt0 : w2.cell? ⟨gt, 0, none⟩ = some (.int .i64 a0_0) := (blk_cell Bgt_2.out 0).trans rfl; have hcgt1 : w2.cell? ⟨gt, 1, none⟩ = some (.slice A0_1 l0_1.length c0_1) := (blk_cell Bgt_2.out 1).trans rfl; have hcp00 : w2.cell? ⟨p0, 0, none⟩ = some (.int .i64 a1) := (blk_cell Bp0_2.out 0).trans rfl; clear hg hbox hb) | ((with_reducible refine gate_dst (N := 5) rfl ?_); refine box_event ?hg (N := 5) ?hd (cs := #[.int .i64 a2]) (t := 3) ?hr ?_; (case hd => rfl); (case hg => rfl); (case hr => first | (go_simp; done) | (go_simp; rfl)); intro p1 hg w3 hbox hb; have HB3 := Aside0.mk (below_step HB2.out hb); have Bgt_3 := Aside0.mk (blk_below Bgt_2.out hb); have Bp0_3 := Aside0.mk (blk_below Bp0_2.out hb); have Bp1_3 := Aside0.mk hbox; clear Bgt_2 Bp0_2 HB2; clear hcgt0 hcgt1 hcp00; have hcgt0 : w3.cell? ⟨gt, 0, none⟩ = some (.int .i64 a0_0) := (blk_cell Bgt_3.out 0).trans rfl; have hcgt1 : w3.cell? ⟨gt, 1, none⟩ = some (.slice A0_1 l0_1.length c0_1) := (blk_cell Bgt_3.out 1).trans rfl; have hcp00 : w3.cell? ⟨p0, 0, none⟩ = some (.int .i64 a1) := (blk_cell Bp0_3.out 0).trans rfl; have hcp10 : w3.cell? ⟨p1, 0, none⟩ = some (.int .i64 a2) := (blk_cell Bp1_3.out 0).trans rfl; clear hg hbox hb) | ((with_reducible refine gate_dst (N := 6) rfl ?_); refine box_event ?hg (N := 6) ?hd (cs := #[.int .i64 0, .slice none 0 0]) (t := 29) ?hr ?_; (case hd => rfl); (case hg => rfl); (case hr => first | (go_simp; done) | (go_simp; rfl)); intro gr hg w4 hbox hb; have HB4 := Aside0.mk (below_step HB3.out hb); have Bgt_4 := Aside0.mk (blk_below Bgt_3.out hb); have Bp0_4 := Aside0.mk (blk_below Bp0_3.out hb); have Bp1_4 := Aside0.mk (blk_below Bp1_3.out hb); have Ggr := Aside0.mk (show w.heap.size ≤ gr by rw [hg]; exact HB3.out.size); have Bgr_4 := Aside0.mk hbox; clear Bgt_3 Bp0_3 Bp1_3 HB3; clear hcgt0 hcgt1 hcp00 hcp10; have hcgt0 : w4.cell? ⟨gt, 0, none⟩ = some (.int .i64 a0_0) := (blk_cell Bgt_4.out 0).trans rfl; have hcgt1 : w4.cell? ⟨gt, 1, none⟩ = some (.slice A0_1 l0_1.length c0_1) := (blk_cell Bgt_4.out 1).trans rfl; have hcp00 : w4.cell? ⟨p0, 0, none⟩ = some (.int .i64 a1) := (blk_cell Bp0_4.out 0).trans rfl; have hcp10 : w4.cell? ⟨p1, 0, none⟩ = some (.int .i64 a2) := (blk_cell Bp1_4.out 0).trans rfl; have hcgr0 : w4.cell? ⟨gr, 0, none⟩ = some (.int .i64 0) := (blk_cell Bgr_4.out 0).trans rfl; have hcgr1 : w4.cell? ⟨gr, 1, none⟩ = some (.slice none 0 0) := (blk_cell Bgr_4.out 1).trans rfl; clear hg hbox hb) | ((with_reducible refine gate_dst (N := 11) rfl ?_); refine Kd.R_lit (Kd.int .i64) _ 3 ?hg (N := 11) ?hd (xs := ([a1, a2] : List Int)) (inner := [.int .i64 a1, .int .i64 a2]) (ok := fun _ => True) (okp := fun _ => True) ?hr ?hp (fun _ hk => hk) trivial (Below.refl _ _) (Nat.le_refl _) (by simp) ?_; (case hd => rfl); (case hg => rfl); (case hr => first | (go_simp; done) | (go_simp; rfl)); (case hp => exact (Reps.one (show Kd.M (Kd.int .i64) _ _ _ a1 [.int .i64 a1] from rfl) (Reps.one (show Kd.M (Kd.int .i64) _ _ _ a2 [.int .i64 a2] from rfl) (Reps.none _ _)))); intro vl w5 hol hbl hgl hnewl; obtain ⟨Al, cl, el, hll, hcl⟩ := Kd.R_reads hol; subst el; have HCL := Aside0.mk hcl; have HLL := Aside0.mk hll; have HB5 := Aside0.mk (below_step HB4.out hbl); have Bgt_5 := Aside0.mk (blk_below Bgt_4.out hbl); have Bp0_5 := Aside0.mk (blk_below Bp0_4.out hbl); have Bp1_5 := Aside0.mk (blk_below Bp1_4.out hbl); have Bgr_5 := Aside0.mk (blk_below Bgr_4.out hbl); clear Bgt_4 Bp0_4 Bp1_4 Bgr_4 HB4; clear hcgt0 hcgt1 hcp00 hcp10 hcgr0 hcgr1; have hcgt0 : w5.cell? ⟨gt, 0, none⟩ = some (.int .i64 a0_0) := (blk_cell Bgt_5.out 0).trans rfl; have hcgt1 : w5.cell? ⟨gt, 1, none⟩ = some (.slice A0_1 l0_1.length c0_1) := (blk_cell Bgt_5.out 1).trans rfl; have hcp00 : w5.cell? ⟨p0, 0, none⟩ = some (.int .i64 a1) := (blk_cell Bp0_5.out 0).trans rfl; have hcp10 : w5.cell? ⟨p1, 0, none⟩ = some (.int .i64 a2) := (blk_cell Bp1_5.out 0).trans rfl; have hcgr0 : w5.cell? ⟨gr, 0, none⟩ = some (.int .i64 0) := (blk_cell Bgr_5.out 0).trans rfl; have hcgr1 : w5.cell? ⟨gr, 1, none⟩ = some (.slice none 0 0) := (blk_cell Bgr_5.out 1).trans rfl; clear hol hbl hgl hnewl hll hcl) | ((with_reducible refine gate_callee (f := 72) rfl ?_); (try (refine gate_guard (by rfl) ?_; dsimp only)); refine goesL_ (some 13) rfl rfl Try.func72 (by kernel_rfl) rfl #[.agg #[.int .i64 a0_0, .slice A0_1 l0_1.length c0_1], .slice Al ([a1, a2] : List Int).length cl, .func (.func 73) #[] #[.pointer (some ⟨p0, 0, none⟩), .pointer (some ⟨p1, 0, none⟩)]] rfl (by (try simp only [List.map_toArray, List.map_cons, List.map_nil]); first | done | rfl) ?_; (with_reducible refine (grown.calls a0_0 A0_1 c0_1 l0_1 Al cl [a1, a2] 73 #[.pointer (some ⟨p0, 0, none⟩), .pointer (some ⟨p1, 0, none⟩)] (andR a0_0 l0_1 a1 a2) _ (Kd.C_below HR.out HB5.out) HC.out HL.out HCL.out HLL.out (Enterable.of Try.func73 (by kernel_rfl) rfl) (fun hG hW W_ g_ w0_ hBW hI hB => by have e_ : (#[.pointer (some ⟨g_, 0, none⟩)] ++ #[.pointer (some ⟨p0, 0, none⟩), .pointer (some ⟨p1, 0, none⟩)] : Array Value) = #[.pointer (some ⟨g_, 0, none⟩), .pointer (some ⟨p0, 0, none⟩), .pointer (some ⟨p1, 0, none⟩)] := (by simp); (rw [e_]); exact GraphAnd_1.calls w0_ g_ a0_0 l0_1 a1 a2 p0 p1 W_ (blk_below Bp0_5.out hBW) (blk_below Bp1_5.out hBW) hI hB (isW_bd (hW 0 (by simp)) hG.ins hG.len) (isW_bd (hW 1 (by simp)) hG.ins hG.len) hG.ins hG.len)).mono ?_); rw [HE.out]; rintro e w6 ⟨v5, rfl, hr5, hb5⟩; refine ⟨_, rfl, ?_⟩; obtain ⟨A5, c5, e5⟩ := Kd.R_slice hr5; obtain ⟨n5, hn5⟩ : ∃ n, n = r.1.length := ⟨_, rfl⟩; rw [← hn5] at e5; subst e5; have HR5 := Aside0.mk (Kd.R_lower hr5 HB5.out.size); clear hr5 hn5; have HB6 := Aside0.mk (below_step HB5.out hb5); have Bgt_6 := Aside0.mk (blk_below Bgt_5.out hb5); have Bp0_6 := Aside0.mk (blk_below Bp0_5.out hb5); have Bp1_6 := Aside0.mk (blk_below Bp1_5.out hb5); have Bgr_6 := Aside0.mk (blk_below Bgr_5.out hb5); clear Bgt_5 Bp0_5 Bp1_5 Bgr_5 HB5; clear hcgt0 hcgt1 hcp00 hcp10 hcgr0 hcgr1; have hcgt0 : w6.cell? ⟨gt, 0, none⟩ = some (.int .i64 a0_0) := (blk_cell Bgt_6.out 0).trans rfl; have hcgt1 : w6.cell? ⟨gt, 1, none⟩ = some (.slice A0_1 l0_1.length c0_1) := (blk_cell Bgt_6.out 1).trans rfl; have hcp00 : w6.cell? ⟨p0, 0, none⟩ = some (.int .i64 a1) := (blk_cell Bp0_6.out 0).trans rfl; have hcp10 : w6.cell? ⟨p1, 0, none⟩ = some (.int .i64 a2) := (blk_cell Bp1_6.out 0).trans rfl; have hcgr0 : w6.cell? ⟨gr, 0, none⟩ = some (.int .i64 0) := (blk_cell Bgr_6.out 0).trans rfl; have hcgr1 : w6.cell? ⟨gr, 1, none⟩ = some (.slice none 0 0) := (blk_cell Bgr_6.out 1).trans rfl; have hfr0 := blk_frozen Bgr_6.out 0; have hfr1 := blk_frozen Bgr_6.out 1; clear hb5))
  have hB1 : Aside0 ((w6.setCell ⟨gr, 0, none⟩ (.int .i64 a0_0)).heap[gr]? = some (.cells #[.int .i64 a0_0, .slice none 0 0] 29 (0, 0))) := ⟨blk_put (cs := #[.int .i64 0, .slice none 0 0]) Bgr_6.out 0 _ rfl⟩
  have hB2 : Aside0 (((w6.setCell ⟨gr, 0, none⟩ (.int .i64 a0_0)).setCell ⟨gr, 1, none⟩ (.slice A5 n5 c5)).heap[gr]? = some (.cells #[.int .i64 a0_0, .slice A5 n5 c5] 29 (0, 0))) := ⟨blk_put (cs := #[.int .i64 a0_0, .slice none 0 0]) hB1.out 1 _ rfl⟩
  refine bodyPost_ret (results_ct rfl _ _ gr 29 #[.int .i64 a0_0, .slice A5 n5 c5] (0, 0) _ rfl hB2.out Try.underlying29 rfl (by kernel_rfl)) rfl ?_
  exact ⟨.slice A5 n5 c5, rfl, Kd.R_set (Kd.R_set HR5.out Bgr_6.out (by decide) 0 _) hB1.out (by decide) 1 _, below_set (below_set HB6.out Ggr.out) Ggr.out⟩
end Go.Proofs.Yteagogcpbcickaa.G
namespace Go.Proofs.Yteagogcpbcickaa.G
open Go.RowKit Go.Proofs.YteagogcpbcickaaW.PrintWords Go.Proofs.YteagogcpbcickaaW.PrintLast Go.Proofs.YteagogcpbcickaaW.PrintMore
attribute [local go_sem] max2_int min2_int max_two min_two max_three min_three max_four min_four   -- for this text's walks alone
set_option linter.unusedVariables false
set_option linter.unusedSimpArgs false
open Go.Proofs.Yteagogcpbcickaa.Fv
open Go.Proofs.Yteagogcpbcickaa.Mp Go.Proofs.Yteagogcpbcickaa.Fv
def impl_GraphIf.f (a0_0 : Int) (l0_1 : List S79) (a1 a2 a3 : Int) : Option (Int × List S79 × Int) :=
  if l0_1.length ≤ 1099511627776 then some (a0_0, (grownR a0_0 l0_1 [a1, a2, a3] (pickR a0_0 l0_1 a1 a2 a3)).1, (grownR a0_0 l0_1 [a1, a2, a3] (pickR a0_0 l0_1 a1 a2 a3)).2) else none
set_option maxHeartbeats 8000000 in
set_option maxRecDepth 100000 in
theorem impl_GraphIf.calls (a0_0 : Int) (A0_1 : Option Addr) (c0_1 : Nat) (l0_1 : List S79) (a1 a2 a3 : Int) (r1 : Int) (r2 : List S79) (r3 : Int) (w : World) (hr0_1 : Kd.C k79 w A0_1 l0_1.length l0_1) (hc0_1 : l0_1.length ≤ c0_1) (h : impl_GraphIf.f a0_0 l0_1 a1 a2 a3 = some (r1, r2, r3)) :
    Calls Try.prog 36 #[.agg #[.int .i64 a0_0, .slice A0_1 l0_1.length c0_1], .int .i64 a1, .int .i64 a2, .int .i64 a3] w fun e w' => ∃ v1_ : Value, e = .returned (.tuple #[.agg #[.int .i64 r1, v1_], .int .i64 r3]) ∧ Kd.R k79 79 w' w.heap.size (fun _ => True) v1_ r2 ∧ Below w.heap.size w w' := by
  have hmf : ∀ (fn_ : Fn) (first_ cap_ : Array Value) (w_ : World), (Instr.makeFunc fn_ first_ cap_).run Try.prog w_ = .ok (.func fn_ first_ cap_) w_ := fun _ _ _ _ => rfl
  have HR := Aside0.mk hr0_1
  have HC := Aside0.mk hc0_1
  clear hr0_1 hc0_1
  unfold impl_GraphIf.f at h
  by_cases hl : l0_1.length ≤ 1099511627776
  case neg => rw [if_neg hl] at h; cases h
  rw [if_pos hl] at h
  have HL := Aside0.mk hl
  clear hl
  generalize hE : grownR a0_0 l0_1 [a1, a2, a3] (pickR a0_0 l0_1 a1 a2 a3) = r at h
  have HE := Aside0.mk hE
  clear hE
  simp only [Option.some.injEq, Prod.mk.injEq] at h
  obtain ⟨rfl, rfl, rfl⟩ := h
  go_enter Try.func36, Try.ntmps36
  go_wp2_with (first | ((with_reducible refine gate_dst (N := 4) rfl ?_); refine box_event ?hg (N := 4) ?hd (cs := #[.int .i64 a0_0, .slice A0_1 l0_1.length c0_1]) (t := 29) ?hr ?_; (case hd => rfl); (case hg => rfl); (case hr => first | (go_simp; done) | (go_simp; rfl)); intro gt hg w1 hbox hb; have HB1 := Aside0.mk hb; have Bgt_1 := Aside0.mk hbox; have hcgt0 : w1.cell? ⟨gt, 0, none⟩ = some (.int .i64 a0_0) := (blk_cell Bgt_1.out 0).trans rfl; have hcgt1 : w1.cell? ⟨gt, 1, none⟩ = some (.slice A0_1 l0_1.length c0_1) := (blk_cell Bgt_1.out 1).trans rfl; clear hg hbox hb) | ((with_reducible refine gate_dst (N := 5) rfl ?_); refine box_event ?hg (N := 5) ?hd (cs := #[.int .i64 a1]) (t := 3) ?hr ?_; (case hd => rfl); (case hg => rfl); (case hr => first | (go_simp; done) | (go_simp; rfl)); intro p0 hg w2 hbox hb; have HB2 := Aside0.mk (below_step HB1.out hb); have Bgt_2 := Aside0.mk (blk_below Bgt_1.out hb); have Bp0_2 := Aside0.mk hbox; clear Bgt_1 HB1; clear hcgt0 hcgt1; have hcgt0 : w2.cell? ⟨gt, 0, none⟩ = some (.int .i64 a0_0) := (blk_cell Bgt_2.out 0).trans rfl; have hcgt1 : w2.cell? ⟨gt, 1, none⟩ = some (.slice A0_1 l0_1.length c0_1) := (blk_cell Bgt_2.out 1).trans rfl; have hcp00 : w2.cell? ⟨p0, 0, none⟩ = some (.int .i64 a1) := (blk_cell Bp0_2.out 0).trans rfl; clear hg hbox hb) | ((with_reducible refine gate_dst (N := 6) rfl ?_); refine box_event ?hg (N := 6) ?hd (cs := #[.int .i64 a2]) (t := 3) ?hr ?_; (case hd => rfl); (case hg => rfl); (case hr => first | (go_simp; done) | (go_simp; rfl)); intro p1 hg w3 hbox hb; have HB3 := Aside0.mk (below_step HB2.out hb); have Bgt_3 := Aside0.mk (blk_below Bgt_2.out hb); have Bp0_3 := Aside0.mk (blk_below Bp0_2.out hb); have Bp1_3 := Aside0.mk hbox; clear Bgt_2 Bp0_2 HB2; clear hcgt0 hcgt1 hcp00; have hcgt0 : w3.cell? ⟨gt, 0, none⟩ = some (.int .i64 a0_0) := (blk_cell Bgt_3.out 0).trans rfl; have hcgt1 : w3.cell? ⟨gt, 1, none⟩ = some (.slice A0_1 l0_1.length c0_1) := (blk_cell Bgt_3.out 1).trans rfl; have hcp00 : w3.cell? ⟨p0, 0, none⟩ = some (.int .i64 a1) := (blk_cell Bp0_3.out 0).trans rfl; have hcp10 : w3.cell? ⟨p1, 0, none⟩ = some (.int .i64 a2) := (blk_cell Bp1_3.out 0).trans rfl; clear hg hbox hb) | ((with_reducible refine gate_dst (N := 7) rfl ?_); refine box_event ?hg (N := 7) ?hd (cs := #[.int .i64 a3]) (t := 3) ?hr ?_; (case hd => rfl); (case hg => rfl); (case hr => first | (go_simp; done) | (go_simp; rfl)); intro p2 hg w4 hbox hb; have HB4 := Aside0.mk (below_step HB3.out hb); have Bgt_4 := Aside0.mk (blk_below Bgt_3.out hb); have Bp0_4 := Aside0.mk (blk_below Bp0_3.out hb); have Bp1_4 := Aside0.mk (blk_below Bp1_3.out hb); have Bp2_4 := Aside0.mk hbox; clear Bgt_3 Bp0_3 Bp1_3 HB3; clear hcgt0 hcgt1 hcp00 hcp10; have hcgt0 : w4.cell? ⟨gt, 0, none⟩ = some (.int .i64 a0_0) := (blk_cell Bgt_4.out 0).trans rfl; have hcgt1 : w4.cell? ⟨gt, 1, none⟩ = some (.slice A0_1 l0_1.length c0_1) := (blk_cell Bgt_4.out 1).trans rfl; have hcp00 : w4.cell? ⟨p0, 0, none⟩ = some (.int .i64 a1) := (blk_cell Bp0_4.out 0).trans rfl; have hcp10 : w4.cell? ⟨p1, 0, none⟩ = some (.int .i64 a2) := (blk_cell Bp1_4.out 0).trans rfl; have hcp20 : w4.cell? ⟨p2, 0, none⟩ = some (.int .i64 a3) := (blk_cell Bp2_4.out 0).trans rfl; clear hg hbox hb) | ((with_reducible refine gate_dst (N := 8) rfl ?_); refine box_event ?hg (N := 8) ?hd (cs := #[.int .i64 0, .slice none 0 0]) (t := 29) ?hr ?_; (case hd => rfl); (case hg => rfl); (case hr => first | (go_simp; done) | (go_simp; rfl)); intro gr hg w5 hbox hb; have HB5 := Aside0.mk (below_step HB4.out hb); have Bgt_5 := Aside0.mk (blk_below Bgt_4.out hb); have Bp0_5 := Aside0.mk (blk_below Bp0_4.out hb); have Bp1_5 := Aside0.mk (blk_below Bp1_4.out hb); have Bp2_5 := Aside0.mk (blk_below Bp2_4.out hb); have Ggr := Aside0.mk (show w.heap.size ≤ gr by rw [hg]; exact HB4.out.size); have Bgr_5 := Aside0.mk hbox; clear Bgt_4 Bp0_4 Bp1_4 Bp2_4 HB4; clear hcgt0 hcgt1 hcp00 hcp10 hcp20; have hcgt0 : w5.cell? ⟨gt, 0, none⟩ = some (.int .i64 a0_0) := (blk_cell Bgt_5.out 0).trans rfl; have hcgt1 : w5.cell? ⟨gt, 1, none⟩ = some (.slice A0_1 l0_1.length c0_1) := (blk_cell Bgt_5.out 1).trans rfl; have hcp00 : w5.cell? ⟨p0, 0, none⟩ = some (.int .i64 a1) := (blk_cell Bp0_5.out 0).trans rfl; have hcp10 : w5.cell? ⟨p1, 0, none⟩ = some (.int .i64 a2) := (blk_cell Bp1_5.out 0).trans rfl; have hcp20 : w5.cell? ⟨p2, 0, none⟩ = some (.int .i64 a3) := (blk_cell Bp2_5.out 0).trans rfl; have hcgr0 : w5.cell? ⟨gr, 0, none⟩ = some (.int .i64 0) := (blk_cell Bgr_5.out 0).trans rfl; have hcgr1 : w5.cell? ⟨gr, 1, none⟩ = some (.slice none 0 0) := (blk_cell Bgr_5.out 1).trans rfl; clear hg hbox hb) | ((with_reducible refine gate_dst (N := 14) rfl ?_); refine Kd.R_lit (Kd.int .i64) _ 3 ?hg (N := 14) ?hd (xs := ([a1, a2, a3] : List Int)) (inner := [.int .i64 a1, .int .i64 a2, .int .i64 a3]) (ok := fun _ => True) (okp := fun _ => True) ?hr ?hp (fun _ hk => hk) trivial (Below.refl _ _) (Nat.le_refl _) (by simp) ?_; (case hd => rfl); (case hg => rfl); (case hr => first | (go_simp; done) | (go_simp; rfl)); (case hp => exact (Reps.one (show Kd.M (Kd.int .i64) _ _ _ a1 [.int .i64 a1] from rfl) (Reps.one (show Kd.M (Kd.int .i64) _ _ _ a2 [.int .i64 a2] from rfl) (Reps.one (show Kd.M (Kd.int .i64) _ _ _ a3 [.int .i64 a3] from rfl) (Reps.none _ _))))); intro vl w6 hol hbl hgl hnewl; obtain ⟨Al, cl, el, hll, hcl⟩ := Kd.R_reads hol; subst el; have HCL := Aside0.mk hcl; have HLL := Aside0.mk hll; have HB6 := Aside0.mk (below_step HB5.out hbl); have Bgt_6 := Aside0.mk (blk_below Bgt_5.out hbl); have Bp0_6 := Aside0.mk (blk_below Bp0_5.out hbl); have Bp1_6 := Aside0.mk (blk_below Bp1_5.out hbl); have Bp2_6 := Aside0.mk (blk_below Bp2_5.out hbl); have Bgr_6 := Aside0.mk (blk_below Bgr_5.out hbl); clear Bgt_5 Bp0_5 Bp1_5 Bp2_5 Bgr_5 HB5; clear hcgt0 hcgt1 hcp00 hcp10 hcp20 hcgr0 hcgr1; have hcgt0 : w6.cell? ⟨gt, 0, none⟩ = some (.int .i64 a0_0) := (blk_cell Bgt_6.out 0).trans rfl; have hcgt1 : w6.cell? ⟨gt, 1, none⟩ = some (.slice A0_1 l0_1.length c0_1) := (blk_cell Bgt_6.out 1).trans rfl; have hcp00 : w6.cell? ⟨p0, 0, none⟩ = some (.int .i64 a1) := (blk_cell Bp0_6.out 0).trans rfl; have hcp10 : w6.cell? ⟨p1, 0, none⟩ = some (.int .i64 a2) := (blk_cell Bp1_6.out 0).trans rfl; have hcp20 : w6.cell? ⟨p2, 0, none⟩ = some (.int .i64 a3) := (blk_cell Bp2_6.out 0).trans rfl; have hcgr0 : w6.cell? ⟨gr, 0, none⟩ = some (.int .i64 0) := (blk_cell Bgr_6.out 0).trans rfl; have hcgr1 : w6.cell? ⟨gr, 1, none⟩ = some (.slice none 0 0) := (blk_cell Bgr_6.out 1).trans rfl; clear hol hbl hgl hnewl hll hcl) | ((with_reducible refine gate_callee (f := 72) rfl ?_); (try (refine gate_guard (by rfl) ?_; dsimp only)); refine goesL_ (some 16) rfl rfl Try.func72 (by kernel_rfl) rfl #[.agg #[.int .i64 a0_0, .slice A0_1 l0_1.length c0_1], .slice Al ([a1, a2, a3] : List Int).length cl, .func (.func 81) #[] #[.pointer (some ⟨p0, 0, none⟩), .pointer (some ⟨p1, 0, none⟩), .pointer (some ⟨p2, 0, none⟩)]] rfl (by (try simp only [List.map_toArray, List.map_cons, List.map_nil]); first | done | rfl) ?_; (with_reducible refine (grown.calls a0_0 A0_1 c0_1 l0_1 Al cl [a1, a2, a3] 81 #[.pointer (some ⟨p0, 0, none⟩), .pointer (some ⟨p1, 0, none⟩), .pointer (some ⟨p2, 0, none⟩)] (pickR a0_0 l0_1 a1 a2 a3) _ (Kd.C_below HR.out HB6.out) HC.out HL.out HCL.out HLL.out (Enterable.of Try.func81 (by kernel_rfl) rfl) (fun hG hW W_ g_ w0_ hBW hI hB => by have e_ : (#[.pointer (some ⟨g_, 0, none⟩)] ++ #[.pointer (some ⟨p0, 0, none⟩), .pointer (some ⟨p1, 0, none⟩), .pointer (some ⟨p2, 0, none⟩)] : Array Value) = #[.pointer (some ⟨g_, 0, none⟩), .pointer (some ⟨p0, 0, none⟩), .pointer (some ⟨p1, 0, none⟩), .pointer (some ⟨p2, 0, none⟩)] := (by simp); (rw [e_]); exact GraphIf_1.calls w0_ g_ a0_0 l0_1 a1 a2 a3 p0 p1 p2 W_ (blk_below Bp0_6.out hBW) (blk_below Bp1_6.out hBW) (blk_below Bp2_6.out hBW) hI hB (isW_bd (hW 0 (by simp)) hG.ins hG.len) (isW_bd (hW 1 (by simp)) hG.ins hG.len) (isW_bd (hW 2 (by simp)) hG.ins hG.len) hG.ins hG.len)).mono ?_); rw [HE.out]; rintro e w7 ⟨v5, rfl, hr5, hb5⟩; refine ⟨_, rfl, ?_⟩; obtain ⟨A5, c5, e5⟩ := Kd.R_slice hr5; obtain ⟨n5, hn5⟩ : ∃ n, n = r.1.length := ⟨_, rfl⟩; rw [← hn5] at e5; subst e5; have HR5 := Aside0.mk (Kd.R_lower hr5 HB6.out.size); clear hr5 hn5; have HB7 := Aside0.mk (below_step HB6.out hb5); have Bgt_7 := Aside0.mk (blk_below Bgt_6.out hb5); have Bp0_7 := Aside0.mk (blk_below Bp0_6.out hb5); have Bp1_7 := Aside0.mk (blk_below Bp1_6.out hb5); have Bp2_7 := Aside0.mk (blk_below Bp2_6.out hb5); have Bgr_7 := Aside0.mk (blk_below Bgr_6.out hb5); clear Bgt_6 Bp0_6 Bp1_6 Bp2_6 Bgr_6 HB6; clear hcgt0 hcgt1 hcp00 hcp10 hcp20 hcgr0 hcgr1; have hcgt0 : w7.cell? ⟨gt, 0, none⟩ = some (.int .i64 a0_0) := (blk_cell Bgt_7.out 0).trans rfl; have hcgt1 : w7.cell? ⟨gt, 1, none⟩ = some (.slice A0_1 l0_1.length c0_1) := (blk_cell Bgt_7.out 1).trans rfl; have hcp00 : w7.cell? ⟨p0, 0, none⟩ = some (.int .i64 a1) := (blk_cell Bp0_7.out 0).trans rfl; have hcp10 : w7.cell? ⟨p1, 0, none⟩ = some (.int .i64 a2) := (blk_cell Bp1_7.out 0).trans rfl; have hcp20 : w7.cell? ⟨p2, 0, none⟩ = some (.int .i64 a3) := (blk_cell Bp2_7.out 0).trans rfl; have hcgr0 : w7.cell? ⟨gr, 0, none⟩ = some (.int .i64 0) := (blk_cell Bgr_7.out 0).trans rfl; have hcgr1 : w7.cell? ⟨gr, 1, none⟩ = some (.slice none 0 0) := (blk_cell Bgr_7.out 1).trans rfl; have hfr0 := blk_frozen Bgr_7.out 0; have hfr1 := blk_frozen Bgr_7.out 1; clear hb5))
  have hB1 : Aside0 ((w7.setCell ⟨gr, 0, none⟩ (.int .i64 a0_0)).heap[gr]? = some (.cells #[.int .i64 a0_0, .slice none 0 0] 29 (0, 0))) := ⟨blk_put (cs := #[.int .i64 0, .slice none 0 0]) Bgr_7.out 0 _ rfl⟩
  have hB2 : Aside0 (((w7.setCell ⟨gr, 0, none⟩ (.int .i64 a0_0)).setCell ⟨gr, 1, none⟩ (.slice A5 n5 c5)).heap[gr]? = some (.cells #[.int .i64 a0_0, .slice A5 n5 c5] 29 (0, 0))) := ⟨blk_put (cs := #[.int .i64 a0_0, .slice none 0 0]) hB1.out 1 _ rfl⟩
  refine bodyPost_ret (results_ct rfl _ _ gr 29 #[.int .i64 a0_0, .slice A5 n5 c5] (0, 0) _ rfl hB2.out Try.underlying29 rfl (by kernel_rfl)) rfl ?_
  exact ⟨.slice A5 n5 c5, rfl, Kd.R_set (Kd.R_set HR5.out Bgr_7.out (by decide) 0 _) hB1.out (by decide) 1 _, below_set (below_set HB7.out Ggr.out) Ggr.out⟩
end Go.Proofs.Yteagogcpbcickaa.G
namespace Go.Proofs.Yteagogcpbcickaa.G
open Go.RowKit Go.Proofs.YteagogcpbcickaaW.PrintWords Go.Proofs.YteagogcpbcickaaW.PrintLast Go.Proofs.YteagogcpbcickaaW.PrintMore
attribute [local go_sem] max2_int min2_int max_two min_two max_three min_three max_four min_four   -- for this text's walks alone
set_option linter.unusedVariables false
set_option linter.unusedSimpArgs false
open Go.Proofs.Yteagogcpbcickaa.Fv
open Go.Proofs.Yteagogcpbcickaa.Mp Go.Proofs.Yteagogcpbcickaa.Fv
def impl_GraphOr.f (a0_0 : Int) (l0_1 : List S79) (a1 a2 : Int) : Option (Int × List S79 × Int) :=
  if l0_1.length ≤ 1099511627776 then some (a0_0, (grownR a0_0 l0_1 [a1, a2] (orR a0_0 l0_1 a1 a2)).1, (grownR a0_0 l0_1 [a1, a2] (orR a0_0 l0_1 a1 a2)).2) else none
set_option maxHeartbeats 8000000 in
set_option maxRecDepth 100000 in
theorem impl_GraphOr.calls (a0_0 : Int) (A0_1 : Option Addr) (c0_1 : Nat) (l0_1 : List S79) (a1 a2 : Int) (r1 : Int) (r2 : List S79) (r3 : Int) (w : World) (hr0_1 : Kd.C k79 w A0_1 l0_1.length l0_1) (hc0_1 : l0_1.length ≤ c0_1) (h : impl_GraphOr.f a0_0 l0_1 a1 a2 = some (r1, r2, r3)) :
    Calls Try.prog 34 #[.agg #[.int .i64 a0_0, .slice A0_1 l0_1.length c0_1], .int .i64 a1, .int .i64 a2] w fun e w' => ∃ v1_ : Value, e = .returned (.tuple #[.agg #[.int .i64 r1, v1_], .int .i64 r3]) ∧ Kd.R k79 79 w' w.heap.size (fun _ => True) v1_ r2 ∧ Below w.heap.size w w' := by
  have hmf : ∀ (fn_ : Fn) (first_ cap_ : Array Value) (w_ : World), (Instr.makeFunc fn_ first_ cap_).run Try.prog w_ = .ok (.func fn_ first_ cap_) w_ := fun _ _ _ _ => rfl
  have HR := Aside0.mk hr0_1
  have HC := Aside0.mk hc0_1
  clear hr0_1 hc0_1
  unfold impl_GraphOr.f at h
  by_cases hl : l0_1.length ≤ 1099511627776
  case neg => rw [if_neg hl] at h; cases h
  rw [if_pos hl] at h
  have HL := Aside0.mk hl
  clear hl
  generalize hE : grownR a0_0 l0_1 [a1, a2] (orR a0_0 l0_1 a1 a2) = r at h
  have HE := Aside0.mk hE
  clear hE
  simp only [Option.some.injEq, Prod.mk.injEq] at h
  obtain ⟨rfl, rfl, rfl⟩ := h
  go_enter Try.func34, Try.ntmps34
  go_wp2_with (first | ((with_reducible refine gate_dst (N := 3) rfl ?_); refine box_event ?hg (N := 3) ?hd (cs := #[.int .i64 a0_0, .slice A0_1 l0_1.length c0_1]) (t := 29) ?hr ?_; (case hd => rfl); (case hg => rfl); (case hr => first | (go_simp; done) | (go_simp; rfl)); intro gt hg w1 hbox hb; have HB1 := Aside0.mk hb; have Bgt_1 := Aside0.mk hbox; have hcgt0 : w1.cell? ⟨gt, 0, none⟩ = some (.int .i64 a0_0) := (blk_cell Bgt_1.out 0).trans rfl; have hcgt1 : w1.cell? ⟨gt, 1, none⟩ = some (.slice A0_1 l0_1.length c0_1) := (blk_cell Bgt_1.out 1).trans rfl; clear hg hbox hb) | ((with_reducible refine gate_dst (N := 4) rfl ?_); refine box_event ?hg (N := 4) ?hd (cs := #[.int .i64 a1]) (t := 3) ?hr ?_; (case hd => rfl); (case hg => rfl); (case hr => first | (go_simp; done) | (go_simp; rfl)); intro p0 hg w2 hbox hb; have HB2 := Aside0.mk (below_step HB1.out hb); have Bgt_2 := Aside0.mk (blk_below Bgt_1.out hb); have Bp0_2 := Aside0.mk hbox; clear Bgt_1 HB1; clear hcgt0 hcgt1; have hcgt0 : w2.cell? ⟨gt, 0, none⟩ = some (.int .i64 a0_0) := (blk_cell Bgt_2.out 0).trans rfl; have hcgt1 : w2.cell? ⟨gt, 1, none⟩ = some (.slice A0_1 l0_1.length c0_1) := (blk_cell Bgt_2.out 1).trans rfl; have hcp00 : w2.cell? ⟨p0, 0, none⟩ = some (.int .i64 a1) := (blk_cell Bp0_2.out 0).trans rfl; clear hg hbox hb) | ((with_reducible refine gate_dst (N := 5) rfl ?_); refine box_event ?hg (N := 5) ?hd (cs := #[.int .i64 a2]) (t := 3) ?hr ?_; (case hd => rfl); (case hg => rfl); (case hr => first | (go_simp; done) | (go_simp; rfl)); intro p1 hg w3 hbox hb; have HB3 := Aside0.mk (below_step HB2.out hb); have Bgt_3 := Aside0.mk (blk_below Bgt_2.out hb); have Bp0_3 := Aside0.mk (blk_below Bp0_2.out hb); have Bp1_3 := Aside0.mk hbox; clear Bgt_2 Bp0_2 HB2; clear hcgt0 hcgt1 hcp00; have hcgt0 : w3.cell? ⟨gt, 0, none⟩ = some (.int .i64 a0_0) := (blk_cell Bgt_3.out 0).trans rfl; have hcgt1 : w3.cell? ⟨gt, 1, none⟩ = some (.slice A0_1 l0_1.length c0_1) := (blk_cell Bgt_3.out 1).trans rfl; have hcp00 : w3.cell? ⟨p0, 0, none⟩ = some (.int .i64 a1) := (blk_cell Bp0_3.out 0).trans rfl; have hcp10 : w3.cell? ⟨p1, 0, none⟩ = some (.int .i64 a2) := (blk_cell Bp1_3.out 0).trans rfl; clear hg hbox hb) | ((with_reducible refine gate_dst (N := 6) rfl ?_); refine box_event ?hg (N := 6) ?hd (cs := #[.int .i64 0, .slice none 0 0]) (t := 29) ?hr ?_; (case hd => rfl); (case hg => rfl); (case hr => first | (go_simp; done) | (go_simp; rfl)); intro gr hg w4 hbox hb; have HB4 := Aside0.mk (below_step HB3.out hb); have Bgt_4 := Aside0.mk (blk_below Bgt_3.out hb); have Bp0_4 := Aside0.mk (blk_below Bp0_3.out hb); have Bp1_4 := Aside0.mk (blk_below Bp1_3.out hb); have Ggr := Aside0.mk (show w.heap.size ≤ gr by rw [hg]; exact HB3.out.size); have Bgr_4 := Aside0.mk hbox; clear Bgt_3 Bp0_3 Bp1_3 HB3; clear hcgt0 hcgt1 hcp00 hcp10; have hcgt0 : w4.cell? ⟨gt, 0, none⟩ = some (.int .i64 a0_0) := (blk_cell Bgt_4.out 0).trans rfl; have hcgt1 : w4.cell? ⟨gt, 1, none⟩ = some (.slice A0_1 l0_1.length c0_1) := (blk_cell Bgt_4.out 1).trans rfl; have hcp00 : w4.cell? ⟨p0, 0, none⟩ = some (.int .i64 a1) := (blk_cell Bp0_4.out 0).trans rfl; have hcp10 : w4.cell? ⟨p1, 0, none⟩ = some (.int .i64 a2) := (blk_cell Bp1_4.out 0).trans rfl; have hcgr0 : w4.cell? ⟨gr, 0, none⟩ = some (.int .i64 0) := (blk_cell Bgr_4.out 0).trans rfl; have hcgr1 : w4.cell? ⟨gr, 1, none⟩ = some (.slice none 0 0) := (blk_cell Bgr_4.out 1).trans rfl; clear hg hbox hb) | ((with_reducible refine gate_dst (N := 11) rfl ?_); refine Kd.R_lit (Kd.int .i64) _ 3 ?hg (N := 11) ?hd (xs := ([a1, a2] : List Int)) (inner := [.int .i64 a1, .int .i64 a2]) (ok := fun _ => True) (okp := fun _ => True) ?hr ?hp (fun _ hk => hk) trivial (Below.refl _ _) (Nat.le_refl _) (by simp) ?_; (case hd => rfl); (case hg => rfl); (case hr => first | (go_simp; done) | (go_simp; rfl)); (case hp => exact (Reps.one (show Kd.M (Kd.int .i64) _ _ _ a1 [.int .i64 a1] from rfl) (Reps.one (show Kd.M (Kd.int .i64) _ _ _ a2 [.int .i64 a2] from rfl) (Reps.none _ _)))); intro vl w5 hol hbl hgl hnewl; obtain ⟨Al, cl, el, hll, hcl⟩ := Kd.R_reads hol; subst el; have HCL := Aside0.mk hcl; have HLL := Aside0.mk hll; have HB5 := Aside0.mk (below_step HB4.out hbl); have Bgt_5 := Aside0.mk (blk_below Bgt_4.out hbl); have Bp0_5 := Aside0.mk (blk_below Bp0_4.out hbl); have Bp1_5 := Aside0.mk (blk_below Bp1_4.out hbl); have Bgr_5 := Aside0.mk (blk_below Bgr_4.out hbl); clear Bgt_4 Bp0_4 Bp1_4 Bgr_4 HB4; clear hcgt0 hcgt1 hcp00 hcp10 hcgr0 hcgr1; have hcgt0 : w5.cell? ⟨gt, 0, none⟩ = some (.int .i64 a0_0) := (blk_cell Bgt_5.out 0).trans rfl; have hcgt1 : w5.cell? ⟨gt, 1, none⟩ = some (.slice A0_1 l0_1.length c0_1) := (blk_cell Bgt_5.out 1).trans rfl; have hcp00 : w5.cell? ⟨p0, 0, none⟩ = some (.int .i64 a1) := (blk_cell Bp0_5.out 0).trans rfl; have hcp10 : w5.cell? ⟨p1, 0, none⟩ = some (.int .i64 a2) := (blk_cell Bp1_5.out 0).trans rfl; have hcgr0 : w5.cell? ⟨gr, 0, none⟩ = some (.int .i64 0) := (blk_cell Bgr_5.out 0).trans rfl; have hcgr1 : w5.cell? ⟨gr, 1, none⟩ = some (.slice none 0 0) := (blk_cell Bgr_5.out 1).trans rfl; clear hol hbl hgl hnewl hll hcl) | ((with_reducible refine gate_callee (f := 72) rfl ?_); (try (refine gate_guard (by rfl) ?_; dsimp only)); refine goesL_ (some 13) rfl rfl Try.func72 (by kernel_rfl) rfl #[.agg #[.int .i64 a0_0, .slice A0_1 l0_1.length c0_1], .slice Al ([a1, a2] : List Int).length cl, .func (.func 78) #[] #[.pointer (some ⟨p0, 0, none⟩), .pointer (some ⟨p1, 0, none⟩)]] rfl (by (try simp only [List.map_toArray, List.map_cons, List.map_nil]); first | done | rfl) ?_; (with_reducible refine (grown.calls a0_0 A0_1 c0_1 l0_1 Al cl [a1, a2] 78 #[.pointer (some ⟨p0, 0, none⟩), .pointer (some ⟨p1, 0, none⟩)] (orR a0_0 l0_1 a1 a2) _ (Kd.C_below HR.out HB5.out) HC.out HL.out HCL.out HLL.out (Enterable.of Try.func78 (by kernel_rfl) rfl) (fun hG hW W_ g_ w0_ hBW hI hB => by have e_ : (#[.pointer (some ⟨g_, 0, none⟩)] ++ #[.pointer (some ⟨p0, 0, none⟩), .pointer (some ⟨p1, 0, none⟩)] : Array Value) = #[.pointer (some ⟨g_, 0, none⟩), .pointer (some ⟨p0, 0, none⟩), .pointer (some ⟨p1, 0, none⟩)] := (by simp); (rw [e_]); exact GraphOr_1.calls w0_ g_ a0_0 l0_1 a1 a2 p0 p1 W_ (blk_below Bp0_5.out hBW) (blk_below Bp1_5.out hBW) hI hB (isW_bd (hW 0 (by simp)) hG.ins hG.len) (isW_bd (hW 1 (by simp)) hG.ins hG.len) hG.ins hG.len)).mono ?_); rw [HE.out]; rintro e w6 ⟨v5, rfl, hr5, hb5⟩; refine ⟨_, rfl, ?_⟩; obtain ⟨A5, c5, e5⟩ := Kd.R_slice hr5; obtain ⟨n5, hn5⟩ : ∃ n, n = r.1.length := ⟨_, rfl⟩; rw [← hn5] at e5; subst e5; have HR5 := Aside0.mk (Kd.R_lower hr5 HB5.out.size); clear hr5 hn5; have HB6 := Aside0.mk (below_step HB5.out hb5); have Bgt_6 := Aside0.mk (blk_below Bgt_5.out hb5); have Bp0_6 := Aside0.mk (blk_below Bp0_5.out hb5); have Bp1_6 := Aside0.mk (blk_below Bp1_5.out hb5); have Bgr_6 := Aside0.mk (blk_below Bgr_5.out hb5); clear Bgt_5 Bp0_5 Bp1_5 Bgr_5 HB5; clear hcgt0 hcgt1 hcp00 hcp10 hcgr0 hcgr1; have hcgt0 : w6.cell? ⟨gt, 0, none⟩ = some (.int .i64 a0_0) := (blk_cell Bgt_6.out 0).trans rfl; have hcgt1 : w6.cell? ⟨gt, 1, none⟩ = some (.slice A0_1 l0_1.length c0_1) := (blk_cell Bgt_6.out 1).trans rfl; have hcp00 : w6.cell? ⟨p0, 0, none⟩ = some (.int .i64 a1) := (blk_cell Bp0_6.out 0).trans rfl; have hcp10 : w6.cell? ⟨p1, 0, none⟩ = some (.int .i64 a2) := (blk_cell Bp1_6.out 0).trans rfl; have hcgr0 : w6.cell? ⟨gr, 0, none⟩ = some (.int .i64 0) := (blk_cell Bgr_6.out 0).trans rfl; have hcgr1 : w6.cell? ⟨gr, 1, none⟩ = some (.slice none 0 0) := (blk_cell Bgr_6.out 1).trans rfl; have hfr0 := blk_frozen Bgr_6.out 0; have hfr1 := blk_frozen Bgr_6.out 1; clear hb5))
  have hB1 : Aside0 ((w6.setCell ⟨gr, 0, none⟩ (.int .i64 a0_0)).heap[gr]? = some (.cells #[.int .i64 a0_0, .slice none 0 0] 29 (0, 0))) := ⟨blk_put (cs := #[.int .i64 0, .slice none 0 0]) Bgr_6.out 0 _ rfl⟩
  have hB2 : Aside0 (((w6.setCell ⟨gr, 0, none⟩ (.int .i64 a0_0)).setCell ⟨gr, 1, none⟩ (.slice A5 n5 c5)).heap[gr]? = some (.cells #[.int .i64 a0_0, .slice A5 n5 c5] 29 (0, 0))) := ⟨blk_put (cs := #[.int .i64 a0_0, .slice none 0 0]) hB1.out 1 _ rfl⟩
  refine bodyPost_ret (results_ct rfl _ _ gr 29 #[.int .i64 a0_0, .slice A5 n5 c5] (0, 0) _ rfl hB2.out Try.underlying29 rfl (by kernel_rfl)) rfl ?_
  exact ⟨.slice A5 n5 c5, rfl, Kd.R_set (Kd.R_set HR5.out Bgr_6.out (by decide) 0 _) hB1.out (by decide) 1 _, below_set (below_set HB6.out Ggr.out) Ggr.out⟩
end Go.Proofs.Yteagogcpbcickaa.G
set_option linter.unusedSimpArgs false
set_option linter.unusedVariables false
namespace Go.Proofs.Yteagogcpbcickaa.Cp
open Go.RowKit Go.Proofs.YteagogcpbcickaaW.PrintWords Go.Proofs.YteagogcpbcickaaW.PrintLast Go.Proofs.YteagogcpbcickaaW.PrintMore Go.Proofs.YteagogcpbcickaaW.PrintWords.Kd
theorem copy_at {P : Program} {ops : Array Oper} {rest : List Oper} {o : Oper} {a : Act} {Q : Exit → Act → World → Prop} {α : Type} {enc : α → Value} {h1 : ∀ x, (enc x).oneCell' = true} {d : α} {w0 W : World} (base : Nat) (hgd : o.guard = none) (s x : Operand) (t t' e : TypeId)
    (ho : o.op = .call { callee := .builtin .copy, args := #[s, x], argTypes := #[t, t'] }) (ht : P.underlying t = some (.slice e)) (hinfo : (P.info? e).map (·.size) = some 1)
    {g n c L : Nat} {xs ys : List α} {ok : Nat → Prop} {A1 : Option Addr} {n1 c1 : Nat} {A : Option Addr} {m c2 : Nat} (hs : a.eval s = .slice A1 n1 c1) (hx : a.eval x = .slice A m c2)
    (hA : A1 = if c = L then some ⟨g, 0, none⟩ else some ((⟨g, 0, none⟩ : Addr).add L)) (hn : n1 = n - L) (hL : L ≤ n)
    (HO : (scalar enc h1).R e W base ok (.slice (some ⟨g, 0, none⟩) n c) xs) (HR : (scalar enc h1).C W A m ys) (HB : Below base w0 W) (hbase : base ≤ W.heap.size)
    (h : ∀ w1, (scalar enc h1).R e w1 base ok (.slice (some ⟨g, 0, none⟩) n c) (xs.take L ++ (ys.take (xs.length - L) ++ xs.drop (L + ys.length))) → Below base w0 w1 → W.grownBy w1 (some g) → wpList P ops Q rest (a.put o.dst (.int .i64 ((min m n1 : Nat) : Int))) w1) :
    wpList P ops Q (o :: rest) a W := by
  have hR := reads_of_C (enc := enc) (d := d) (h1 := h1) HR
  have hm : ys.length = m := hR.1
  have hn' : n = xs.length := (R_reads' HO).1
  have hnc0 : n ≤ c := (R_reads' HO).2.1
  have hown := own_of_R HO
  have fin : ∀ w1, (Builtin.copy_ #[t, t'] o.type #[.slice A1 n1 c1, .slice A m c2]).run P W = .ok (goInt ((min m n1 : Nat) : Int)) w1 → (scalar enc h1).R e w1 base ok (.slice (some ⟨g, 0, none⟩) n c) (xs.take L ++ (ys.take (xs.length - L) ++ xs.drop (L + ys.length))) → W.grownBy w1 (some g) → wpList P ops Q (o :: rest) a W := by
    intro w1 hr hrow hg
    refine wpList_plain hgd fun K hK => ?_
    unfold Oper.wp execOp
    simp only [ho, resolve, invoke, builtin, Sem.run_bind, Sem.run_pure, Result.andThen_ok, List.map_toArray, List.map_cons, List.map_nil, hs, hx, hr]
    exact hK _ _ (h w1 hrow (HB.grown hg hbase (fun k hk => own_base hown k (by rw [← hk]; rfl))) hg)
  rcases Nat.eq_zero_or_pos (min m n1) with h0 | hp
  · refine fin W ?_ ?_ (World.grownBy.refl W _)
    · rw [h0]
      exact run_copy_none W t t' o.type e A1 A n1 c1 m c2 ht hinfo h0
    · have hz : xs.take L ++ (ys.take (xs.length - L) ++ xs.drop (L + ys.length)) = xs := by
        rcases Nat.eq_zero_or_pos ys.length with hy | hy
        · rw [List.length_eq_zero_iff.1 hy]
          simp
        · have : xs.length - L = 0 := by omega
          rw [this, List.take_zero, List.nil_append, List.drop_eq_nil_of_le (by omega), List.take_of_length_le (by omega), List.append_nil]
      rw [hz]
      exact HO
  · obtain ⟨ad, hAd, hc⟩ := hR.2.2 (by omega)
    have hA1 : A1 = some ⟨g, L, none⟩ := by rw [hA, if_neg (by omega), add_plain]
    rcases hown.2 with ⟨hv, _⟩ | ⟨g', cap, cur, hv, hb, hh, hnc, hcm, hcs, htake⟩
    · injection hv with hv _ _
      cases hv
    injection hv with hv1 hv2 hv3
    injection hv1 with hv1
    injection hv1 with hv1 _ _
    subst hv1
    subst hv3
    have hcs1 : cur.size = c := by omega
    have hkl : (encs enc (ys.take (min m n1))).length = min m n1 := by rw [encs_length, List.length_take]; omega
    have hsrc : ∀ j u, (encs enc (ys.take (min m n1)))[j]? = some u → W.cell? (ad.add j) = some u := by
      intro j u hu
      have hj : j < (ys.take (min m n1)).length := by
        rcases Nat.lt_or_ge j (ys.take (min m n1)).length with h | h
        · exact h
        · rw [List.getElem?_eq_none (by rw [encs_length]; exact h)] at hu
          cases hu
      have hjm : j < min m n1 := by rw [List.length_take] at hj; omega
      rw [encs_get (d := d) _ j hj] at hu
      rw [hc j (by omega), ← hu]
      simp [List.getD_eq_getElem?_getD, hjm]
    have hr := run_copy_cells (P := P) W t t' o.type e g L n1 c1 ad m c2 (encs enc (ys.take (min m n1))) ht hinfo (by rw [hkl]) hsrc
      (fun j hj => by rw [cell_of_row W g _ cur e (0, 0) hh]; simp; omega) (fun j _ => blk_frozen hh _) (by intro u hu; simp only [encs, List.mem_map] at hu; obtain ⟨q, _, rfl⟩ := hu; exact h1 q)
    obtain ⟨cur', h3, h4, h5⟩ := setCells_row (encs enc (ys.take (min m n1))) L W cur hh (by rw [hkl]; omega)
    obtain ⟨s1, s2, s3, s4⟩ := setCells_same g (encs enc (ys.take (min m n1))) L W
    have hln : (xs.take L ++ (ys.take (xs.length - L) ++ xs.drop (L + ys.length))).length = n := by
      simp only [List.length_append, List.length_take, List.length_drop]
      omega
    refine fin _ (by rw [hA1, hAd, hr, hkl]) (R_of_own ?_ HO.1) ⟨s1, s2, s3, by rw [s4]; exact Nat.le_refl _, fun k _ hk => setCells_far _ _ k (fun he => hk (by rw [he]))⟩
    rw [hln]
    refine ⟨by rw [encs_length, hln, Nat.mul_one], .inr ⟨g, c, cur', rfl, hb, h3, hnc0, hcm, by rw [h4, hcs], ?_⟩⟩
    rw [h5, hkl, Nat.mul_one]
    have htk : cur.toList.take n = encs enc xs := by rw [hn', ← htake, Nat.mul_one]
    have e1 : cur.toList.take L = encs enc (xs.take L) := by
      have : cur.toList.take L = (cur.toList.take n).take L := by rw [List.take_take, Nat.min_eq_left hL]
      rw [this, htk]
      simp [encs, List.map_take]
    have hM : ys.take (min m n1) = ys.take (xs.length - L) := by
      rcases Nat.le_total m n1 with hq | hq
      · rw [Nat.min_eq_left hq, List.take_of_length_le (by omega), List.take_of_length_le (by omega)]
      · rw [Nat.min_eq_right hq, hn, hn']
    have e2 : (cur.toList.drop (L + min m n1)).take (n - (L + min m n1)) = encs enc (xs.drop (L + ys.length)) := by
      rw [← List.drop_take, htk]
      simp only [encs, ← List.map_drop]
      rcases Nat.le_total m n1 with hq | hq
      · rw [Nat.min_eq_left hq, hm]
      · rw [Nat.min_eq_right hq, show xs.drop (L + n1) = [] from List.drop_eq_nil_of_le (by omega), show xs.drop (L + ys.length) = [] from List.drop_eq_nil_of_le (by omega)]
    rw [List.append_assoc, List.take_append, List.take_of_length_le (by rw [List.length_take]; omega), e1, hM, encs_append, encs_append]
    congr 1
    have hk2 : (encs enc (ys.take (xs.length - L))).length = min m n1 := by rw [← hM]; exact hkl
    rw [List.take_append, List.take_of_length_le (by rw [hk2, encs_length, List.length_take]; omega), ← e2]
    congr 2
    rw [hk2, encs_length, List.length_take]
    omega
end Go.Proofs.Yteagogcpbcickaa.Cp
