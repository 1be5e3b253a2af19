-- texts of this session, merged by a program of it (wip/gen/pack.py)
import Derived.Test.YteagogcpbcickaaKFnGraph2
import Derived.Laws.BitsLemmas
namespace Go.Proofs.Yteagogcpbcickaa.G
open Go.RowKit Go.Proofs.YteagogcpbcickaaW.PrintWords Go.Proofs.YteagogcpbcickaaW.PrintLast Go.Proofs.YteagogcpbcickaaW.PrintMore
attribute [local go_sem] max2_int min2_int max_two min_two max_three min_three max_four min_four
set_option linter.unusedVariables false
set_option linter.unusedSimpArgs false
open Go.Proofs.Yteagogcpbcickaa.Mp Go.Proofs.Yteagogcpbcickaa.Fv
def atMap (ins : Int) (L : List S79) : List (S79 × Int) := ((List.range L.length).map fun i : Nat => (rd_T79 L (i : Int), 2 * (ins + 1 + (i : Int)))).reverse
theorem rd_app (L : List S79) (x : S79) (i : Nat) (hi : i < L.length) : rd_T79 (L ++ [x]) i = rd_T79 L i := by
  simp [rd_T79, List.getD_eq_getElem?_getD, List.getElem?_append_left hi]
theorem rd_last (L : List S79) (x : S79) : rd_T79 (L ++ [x]) (L.length : Nat) = x := by
  simp [rd_T79, List.getD_eq_getElem?_getD]
theorem atMap_app (ins : Int) (L : List S79) (x : S79) : atMap ins (L ++ [x]) = (x, 2 * (ins + 1 + L.length)) :: atMap ins L := by
  unfold atMap
  rw [List.length_append, List.length_singleton, List.range_succ, List.map_append, List.reverse_append, List.map_singleton, List.reverse_singleton, List.singleton_append, rd_last]
  congr 2
  apply List.map_congr_left
  intro i hi
  rw [rd_app L x i (List.mem_range.1 hi)]
theorem atMap_length (ins : Int) (L : List S79) : (atMap ins L).length = L.length := by simp [atMap]
structure IsB (w : World) (base g : Nat) (ins : Int) (L : List S79) (A : Option Addr) (c mb : Nat) : Prop where
  blk : w.heap[g]? = some (.cells #[.int .i64 ins, .slice A L.length c, .map (some mb)] 104 (0, 0))
  row : Kd.R k79 79 w base (fun _ => True) (.slice A L.length c) L
  map : IsMp Try.prog 79 3 encAnd wfAnd w mb (atMap ins L)
  geg : base ≤ g
  gem : base ≤ mb
def IsBx (w : World) (base g : Nat) (ins : Int) (L : List S79) : Prop := ∃ A c mb, IsB w base g ins L A c mb
def Fr (g : Nat) (w w' : World) : Prop := ∀ k cs T, k ≠ g → T ≠ 79 → w.heap[k]? = some (.cells cs T (0, 0)) → w'.heap[k]? = some (.cells cs T (0, 0))
def andR (ins : Int) (L : List S79) (x y : Int) : List S79 × Int :=
  if x = 0 then (L, 0) else if y = 0 then (L, 0) else if x = Go.bits .xor .i64 y 1 then (L, 0) else if x = 1 then (L, y) else if y = 1 then (L, x) else if x = y then (L, x)
  else if mhas (atMap ins L) ⟨min x y, max x y⟩ = true then (L, mget (atMap ins L) ⟨min x y, max x y⟩)
  else if 3000 ≤ L.length then (L, -1) else (L ++ [⟨min x y, max x y⟩], 2 * (ins + 1 + L.length))
theorem Fr.refl (g : Nat) (w : World) : Fr g w w := fun _ _ _ _ _ h => h
set_option maxHeartbeats 8000000 in
set_option maxRecDepth 100000 in
theorem builder_and.calls (w0 : World) (g : Nat) (ins : Int) (L : List S79) (x y : Int) (w : World) (hI : IsBx w w0.heap.size g ins L) (hB : Below w0.heap.size w0 w)
    (hx : 0 ≤ x ∧ x ≤ 1048575) (hy : 0 ≤ y ∧ y ≤ 1048575) (hin : 0 ≤ ins ∧ ins ≤ 1000) (hL : L.length ≤ 3000) :
    Calls Try.prog 74 #[.pointer (some ⟨g, 0, none⟩), .int .i64 x, .int .i64 y] w fun e w' => e = .returned (.int .i64 (andR ins L x y).2) ∧ IsBx w' w0.heap.size g ins (andR ins L x y).1 ∧ Below w0.heap.size w0 w' ∧ Fr g w w' := by
  have HI := Aside0.mk hI
  have HB := Aside0.mk hB
  have HX := Aside0.mk hx
  have HY := Aside0.mk hy
  clear hI hB hx hy
  have hE : andR ins L x y = andR ins L x y := rfl
  conv at hE => rhs; unfold andR
  by_cases c1 : x = 0
  · rw [if_pos c1] at hE
    rw [hE]
    clear hE
    have d1 : (x == 0) = true := beq_iff_eq.2 c1
    clear c1
    go_enter Try.func74, Try.ntmps74
    go_wp2
    go_ret
    exact ⟨rfl, HI.out, HB.out, Fr.refl _ _⟩
  rw [if_neg c1] at hE
  have d1 : (x == 0) = false := beq_eq_false_iff_ne.2 c1
  by_cases c2 : y = 0
  · rw [if_pos c2] at hE
    rw [hE]
    clear hE
    have d2 : (y == 0) = true := beq_iff_eq.2 c2
    clear c1 c2
    go_enter Try.func74, Try.ntmps74
    go_wp2
    go_ret
    exact ⟨rfl, HI.out, HB.out, Fr.refl _ _⟩
  rw [if_neg c2] at hE
  have d2 : (y == 0) = false := beq_eq_false_iff_ne.2 c2
  by_cases c3 : x = Go.bits .xor .i64 y 1
  · rw [if_pos c3] at hE
    rw [hE]
    clear hE
    have d3 : (x == Go.bits .xor .i64 y 1) = true := beq_iff_eq.2 c3
    clear c1 c2 c3
    go_enter Try.func74, Try.ntmps74
    go_wp2
    go_ret
    exact ⟨rfl, HI.out, HB.out, Fr.refl _ _⟩
  rw [if_neg c3] at hE
  have d3 : (x == Go.bits .xor .i64 y 1) = false := beq_eq_false_iff_ne.2 c3
  by_cases c4 : x = 1
  · rw [if_pos c4] at hE
    rw [hE]
    clear hE
    have d4 : (x == 1) = true := beq_iff_eq.2 c4
    clear c1 c2 c3 c4
    go_enter Try.func74, Try.ntmps74
    go_wp2
    go_ret
    exact ⟨rfl, HI.out, HB.out, Fr.refl _ _⟩
  rw [if_neg c4] at hE
  have d4 : (x == 1) = false := beq_eq_false_iff_ne.2 c4
  by_cases c5 : y = 1
  · rw [if_pos c5] at hE
    rw [hE]
    clear hE
    have d5 : (y == 1) = true := beq_iff_eq.2 c5
    clear c1 c2 c3 c4 c5
    go_enter Try.func74, Try.ntmps74
    go_wp2
    go_ret
    exact ⟨rfl, HI.out, HB.out, Fr.refl _ _⟩
  rw [if_neg c5] at hE
  have d5 : (y == 1) = false := beq_eq_false_iff_ne.2 c5
  by_cases c6 : x = y
  · rw [if_pos c6] at hE
    rw [hE]
    clear hE
    have d6 : (x == y) = true := beq_iff_eq.2 c6
    clear c1 c2 c3 c4 c5 c6
    go_enter Try.func74, Try.ntmps74
    go_wp2
    go_ret
    exact ⟨rfl, HI.out, HB.out, Fr.refl _ _⟩
  rw [if_neg c6] at hE
  have d6 : (x == y) = false := beq_eq_false_iff_ne.2 c6
  clear c1 c2 c3 c4 c5 c6
  generalize andR ins L x y = r at hE ⊢
  obtain ⟨A, c, mb, hIB⟩ := HI.out
  have HR := Aside0.mk hIB.row
  have HM := Aside0.mk hIB.map
  have BG := Aside0.mk hIB.blk
  have GG := Aside0.mk hIB.geg
  have GM := Aside0.mk hIB.gem
  clear hIB HI
  have hcg0 : w.cell? ⟨g, 0, none⟩ = some (.int .i64 ins) := (blk_cell BG.out 0).trans rfl
  have hcg1 : w.cell? ⟨g, 1, none⟩ = some (.slice A L.length c) := (blk_cell BG.out 1).trans rfl
  have hcg2 : w.cell? ⟨g, 2, none⟩ = some (.map (some mb)) := (blk_cell BG.out 2).trans rfl
  obtain ⟨lo, hlo, hlo'⟩ : ∃ lo, (if y < x then y else x) = lo ∧ min x y = lo := ⟨_, rfl, by split <;> omega⟩
  obtain ⟨hi, hhi, hhi'⟩ : ∃ hi, (if x < y then y else x) = hi ∧ max x y = hi := ⟨_, rfl, by split <;> omega⟩
  have hlh : Aside0 ((0 ≤ lo ∧ lo ≤ 1048575) ∧ 0 ≤ hi ∧ hi ≤ 1048575) := ⟨by have := HX.out; have := HY.out; omega⟩
  rw [hlo', hhi'] at hE
  have HE := Aside0.mk hE
  clear hlo' hhi' hE
  have hwf : Aside0 (wfAnd ⟨lo, hi⟩) := ⟨⟨WalkArith.wf_i64 (show -9223372036854775808 ≤ lo ∧ lo ≤ 9223372036854775807 by have := hlh.out; omega), WalkArith.wf_i64 (show -9223372036854775808 ≤ hi ∧ hi ≤ 9223372036854775807 by have := hlh.out; omega)⟩⟩
  go_enter Try.func74, Try.ntmps74
  go_upto_region 8 with (first | ((with_reducible refine gate_dst (N := 7) rfl ?_); refine box_event ?hg (N := 7) ?hd (cs := #[.int .i64 0, .int .i64 0]) (t := 79) ?hr ?_; (case hd => rfl); (case hg => rfl); (case hr => first | (go_simp; done) | (go_simp; rfl)); intro gk hg w3 hbox hb; have BK := Aside0.mk hbox; have BL := Aside0.mk hb; have GK := Aside0.mk (show w.heap.size ≤ gk by rw [hg]; exact Nat.le_refl _); clear hg hbox hb; have hck0 : w3.cell? ⟨gk, 0, none⟩ = some (.int .i64 0) := (blk_cell BK.out 0).trans rfl; have hck1 : w3.cell? ⟨gk, 1, none⟩ = some (.int .i64 0) := (blk_cell BK.out 1).trans rfl; have hfk0 := blk_frozen BK.out 0; have hfk1 := blk_frozen BK.out 1))
  have BW4 : Aside0 (Below w.heap.size w (((w3.setCell ⟨gk, 0, none⟩ (.int .i64 lo)).setCell ⟨gk, 1, none⟩ (.int .i64 hi)).drew)) := ⟨below_drew1 (below_set (below_set BL.out GK.out) GK.out)⟩
  have BK4 : Aside0 ((((w3.setCell ⟨gk, 0, none⟩ (.int .i64 lo)).setCell ⟨gk, 1, none⟩ (.int .i64 hi)).drew).heap[gk]? = some (.cells #[.int .i64 lo, .int .i64 hi] 79 (0, 0))) := ⟨blk_drew (blk_put (cs := #[.int .i64 lo, .int .i64 0]) (blk_put (cs := #[.int .i64 0, .int .i64 0]) BK.out 0 _ rfl) 1 _ rfl)⟩
  have BG4 := Aside0.mk (blk_below BG.out BW4.out)
  have HM4 := Aside0.mk (HM.out.below BW4.out HM.out.lt)
  clear hck0 hck1 hfk0 hfk1
  refine start_ (n := 11) (S := fun w' => w'.cell? ⟨g, 2, none⟩ = some (.map (some mb)) ∧ w'.cell? ⟨gk, 0, none⟩ = some (.int .i64 lo) ∧ w'.cell? ⟨gk, 1, none⟩ = some (.int .i64 hi)) (ds := []) #[false, false, false, false, false, false, false, false, false, false, false] (by kernel_rfl) rfl rfl ⟨(blk_cell BG4.out 2).trans rfl, (blk_cell BK4.out 0).trans rfl, (blk_cell BK4.out 1).trans rfl⟩ (fun hHeld => ?_)
  refine pure_ (i := 0) (N := some 45) (v := ?_) (a' := ?_) #[true, false, false, false, false, false, false, false, false, false, false] rfl rfl (by kernel_rfl) (fun _ _ _ h => h) (Or.inl ⟨by rfl, ?_⟩) ?_ ?_
  rotate_left
  · intro w'
    go_simp
    with_reducible rfl
  rotate_left
  · simp only [Act.put, List.setIfInBounds_toArray, List.set_cons_zero, List.set_cons_succ, i64_w, i32_w]
    rfl
  refine pure_ (i := 1) (N := some 46) (v := ?_) (a' := ?_) #[true, true, false, false, false, false, false, false, false, false, false] rfl rfl (by kernel_rfl) (fun _ _ _ h => h) (Or.inl ⟨by rfl, ?_⟩) ?_ ?_
  rotate_left
  · intro w'
    go_simp
    with_reducible rfl
  rotate_left
  · simp only [Act.put, List.setIfInBounds_toArray, List.set_cons_zero, List.set_cons_succ, i64_w, i32_w]
    rfl
  refine pure_ (i := 2) (N := some 47) (v := ?_) (a' := ?_) #[true, true, true, false, false, false, false, false, false, false, false] rfl rfl (by kernel_rfl) (fun _ _ _ h => h) (Or.inl ⟨by rfl, ?_⟩) ?_ ?_
  rotate_left
  · intro w'
    go_simp
    with_reducible rfl
  rotate_left
  · simp only [Act.put, List.setIfInBounds_toArray, List.set_cons_zero, List.set_cons_succ, i64_w, i32_w]
    rfl
  refine take_ (i := 3) (N := some 48) (v := ?_) (a' := ?_) #[true, true, true, true, false, false, false, false, false, false, false] rfl rfl (by kernel_rfl) (fun _ _ _ h => h) (Or.inl ⟨by rfl, ?_⟩) hHeld ?_ ?_
  rotate_left
  · rintro w' ⟨s0, s1, s2⟩
    go_simp
    with_reducible rfl
  rotate_left
  · simp only [Act.put, List.setIfInBounds_toArray, List.set_cons_zero, List.set_cons_succ, i64_w, i32_w]
    rfl
  refine take_ (i := 4) (N := some 49) (v := ?_) (a' := ?_) #[true, true, true, true, true, false, false, false, false, false, false] rfl rfl (by kernel_rfl) (fun _ _ _ h => h) (Or.inl ⟨by rfl, ?_⟩) hHeld ?_ ?_
  rotate_left
  · rintro w' ⟨s0, s1, s2⟩
    go_simp
    with_reducible rfl
  rotate_left
  · simp only [Act.put, List.setIfInBounds_toArray, List.set_cons_zero, List.set_cons_succ, i64_w, i32_w]
    rfl
  refine one_ (i := 5) (N := some 50) #[true, true, true, true, true, true, false, false, false, false, false] rfl rfl (by kernel_rfl) (by decide) (fun K hK => ?_)
  refine mget_ok_step (κ := S79) (P := Try.prog) (t := 81) (k := 79) (e := 3) (m := atMap ins L) (by rfl) rfl (.tmp 48) (.tmp 49) rfl andCodec Try.underlying81 Try.underlying3 zeroInt HM4.out rfl ⟨lo, hi⟩ rfl hwf.out ?_
  refine hK.out _ _ ⟨hHeld.1, hHeld.2.1, hHeld.2.2⟩ (fun hHeld => ?_)
  clear hK K
  refine norm_ (a' := ?_) ?_ ?_
  rotate_left
  · show Act.put _ (some 50) _ = _
    simp only [Act.put, List.setIfInBounds_toArray, List.set_cons_zero, List.set_cons_succ, i64_w, i32_w]
    rfl
  refine pure_ (i := 6) (N := some 44) (v := ?_) (a' := ?_) #[true, true, true, true, true, true, true, false, false, false, false] rfl rfl (by kernel_rfl) (fun _ _ _ h => h) (Or.inl ⟨by rfl, ?_⟩) ?_ ?_
  rotate_left
  · intro w'
    go_simp
    with_reducible rfl
  rotate_left
  · simp only [Act.put, List.setIfInBounds_toArray, List.set_cons_zero, List.set_cons_succ, i64_w, i32_w]
    rfl
  refine pure_ (i := 7) (N := some 51) (v := ?_) (a' := ?_) #[true, true, true, true, true, true, true, true, false, false, false] rfl rfl (by kernel_rfl) (fun _ _ _ h => h) (Or.inl ⟨by rfl, ?_⟩) ?_ ?_
  rotate_left
  · intro w'
    go_simp
    with_reducible rfl
  rotate_left
  · simp only [Act.put, List.setIfInBounds_toArray, List.set_cons_zero, List.set_cons_succ, i64_w, i32_w]
    rfl
  refine pure_ (i := 8) (N := some 52) (v := ?_) (a' := ?_) #[true, true, true, true, true, true, true, true, true, false, false] rfl rfl (by kernel_rfl) (fun _ _ _ h => h) (Or.inl ⟨by rfl, ?_⟩) ?_ ?_
  rotate_left
  · intro w'
    go_simp
    with_reducible rfl
  rotate_left
  · simp only [Act.put, List.setIfInBounds_toArray, List.set_cons_zero, List.set_cons_succ, i64_w, i32_w]
    rfl
  refine pure_ (i := 9) (N := some 8) (v := ?_) (a' := ?_) #[true, true, true, true, true, true, true, true, true, true, false] rfl rfl (by kernel_rfl) (fun _ _ _ h => h) (Or.inl ⟨by rfl, ?_⟩) ?_ ?_
  rotate_left
  · intro w'
    go_simp
    with_reducible rfl
  rotate_left
  · simp only [Act.put, List.setIfInBounds_toArray, List.set_cons_zero, List.set_cons_succ, i64_w, i32_w]
    rfl
  refine pure_ (i := 10) (N := some 9) (v := ?_) (a' := ?_) #[true, true, true, true, true, true, true, true, true, true, true] rfl rfl (by kernel_rfl) (fun _ _ _ h => h) (Or.inl ⟨by rfl, ?_⟩) ?_ ?_
  rotate_left
  · intro w'
    go_simp
    with_reducible rfl
  rotate_left
  · simp only [Act.put, List.setIfInBounds_toArray, List.set_cons_zero, List.set_cons_succ, i64_w, i32_w]
    rfl
  refine done_ (by kernel_rfl) ?_

  clear hHeld
  clear hHeld
  generalize (((w3.setCell ⟨gk, 0, none⟩ (.int .i64 lo)).setCell ⟨gk, 1, none⟩ (.int .i64 hi)).drew) = w4 at BW4 BK4 BG4 HM4 ⊢
  have HR4 := Aside0.mk (Kd.R_below HR.out BW4.out)
  have HB4 := Aside0.mk (below_step HB.out BW4.out)
  have F4 : Aside0 (Fr g w w4) := ⟨fun k cs T _ _ h => blk_below h BW4.out⟩
  have hltg := Aside0.mk (blk_lt BG.out)
  have hltr := Aside0.mk (Kd.R_lt HR.out)
  have hltm := Aside0.mk HM.out.lt
  clear HR HM BG hcg0 hcg1 hcg2 HB BL BK
  have hcg0 : w4.cell? ⟨g, 0, none⟩ = some (.int .i64 ins) := (blk_cell BG4.out 0).trans rfl
  have hcg1 : w4.cell? ⟨g, 1, none⟩ = some (.slice A L.length c) := (blk_cell BG4.out 1).trans rfl
  obtain ⟨bq, d8⟩ : ∃ bq, mhas (atMap ins L) ⟨lo, hi⟩ = bq := ⟨_, rfl⟩
  rw [d8]
  rcases Bool.eq_false_or_eq_true bq with rfl | rfl
  · go_wp2
    go_ret
    have hE := HE.out
    rw [if_pos d8] at hE
    subst hE
    exact ⟨rfl, ⟨A, c, mb, BG4.out, HR4.out, HM4.out, GG.out, GM.out⟩, HB4.out, F4.out⟩
  by_cases d9 : 3000 ≤ L.length
  · have e9 : decide ((3000 : Int) ≤ (L.length : Int)) = true := decide_eq_true (by omega)
    replace d9 := Aside0.mk d9
    go_wp2
    go_ret
    have hE := HE.out
    rw [if_neg (show ¬ mhas (atMap ins L) ⟨lo, hi⟩ = true by rw [d8]; decide), if_pos d9.out] at hE
    subst hE
    exact ⟨rfl, ⟨A, c, mb, BG4.out, HR4.out, HM4.out, GG.out, GM.out⟩, HB4.out, F4.out⟩
  have e9 : decide ((3000 : Int) ≤ (L.length : Int)) = false := decide_eq_false (by omega)
  replace d9 := Aside0.mk d9
  have hW : Aside0 (impl_Graph_wires.f ins L = some (2 * (ins + 1 + L.length))) := ⟨by unfold impl_Graph_wires.f; congr 1; unfold wrap64; omega⟩
  have hRd := Aside0.mk (Kd.R_reads' HR4.out)
  have hcg2 : w4.cell? ⟨g, 2, none⟩ = some (.map (some mb)) := (blk_cell BG4.out 2).trans rfl
  have hml : Aside0 ((atMap ins L).length < maxLen) := ⟨by rw [atMap_length]; unfold maxLen; have := d9.out; omega⟩
  have hvf : Aside0 ((Lit.int .i64 (2 * (ins + 1 + (L.length : Int)))).wf = true) := ⟨WalkArith.wf_i64 (by have := d9.out; omega)⟩
  have hin' := Aside0.mk hin
  clear hin
  go_upto_region 14 with (first | ((with_reducible refine gate_callee (f := 64) rfl ?_); (try (refine gate_guard (by rfl) ?_; dsimp only)); refine goesL_ (some 66) rfl rfl Try.func64 (by kernel_rfl) rfl #[.agg #[.int .i64 ins, .slice A L.length c]] rfl (by (try simp only [List.map_toArray, List.map_cons, List.map_nil]); first | done | rfl) ?_; (with_reducible refine (impl_Graph_wires.calls ins A c L _ _ hRd.out.2.2 hRd.out.2.1 hW.out).mono ?_); rintro e w5 ⟨rfl, hb⟩; refine ⟨_, rfl, ?_⟩; have hb5 := Aside0.mk hb; clear hb hcg0 hcg1 hcg2))
  have BD5 := Aside0.mk (below_drew1 hb5.out)
  have BK6 := Aside0.mk (blk_below BK4.out BD5.out)
  have BG6 := Aside0.mk (blk_below BG4.out BD5.out)
  have HM6 := Aside0.mk (HM4.out.below BD5.out HM4.out.lt)
  have HR6 := Aside0.mk (Kd.R_below HR4.out BD5.out)
  have HB6 := Aside0.mk (below_step HB4.out BD5.out)
  have F6 : Aside0 (Fr g w w5.drew) := ⟨fun k cs T h1 h2 h => blk_below (F4.out k cs T h1 h2 h) BD5.out⟩
  clear BK4 BG4 HM4 HR4 HB4 F4 BD5 hb5 hRd BW4
  refine start_ (n := 13) (S := fun w' => w'.cell? ⟨g, 1, none⟩ = some (.slice A L.length c) ∧ w'.cell? ⟨gk, 0, none⟩ = some (.int .i64 lo) ∧ w'.cell? ⟨gk, 1, none⟩ = some (.int .i64 hi)) (ds := [12]) #[false, false, false, false, false, false, false, false, false, false, false, false, false] (by kernel_rfl) rfl rfl ⟨(blk_cell BG6.out 1).trans rfl, (blk_cell BK6.out 0).trans rfl, (blk_cell BK6.out 1).trans rfl⟩ (fun hHeld => ?_)
  generalize w5.drew = w6 at BK6 BG6 HM6 HR6 HB6 F6 hHeld ⊢
  refine pure_ (i := 0) (N := some 67) (v := ?_) (a' := ?_) #[true, false, false, false, false, false, false, false, false, false, false, false, false] rfl rfl (by kernel_rfl) (fun _ _ _ h => h) (Or.inl ⟨by rfl, ?_⟩) ?_ ?_
  rotate_left
  · intro w'
    go_simp
    with_reducible rfl
  rotate_left
  · simp only [Act.put, List.setIfInBounds_toArray, List.set_cons_zero, List.set_cons_succ, i64_w, i32_w]
    rfl
  refine pure_ (i := 1) (N := some 68) (v := ?_) (a' := ?_) #[true, true, false, false, false, false, false, false, false, false, false, false, false] rfl rfl (by kernel_rfl) (fun _ _ _ h => h) (Or.inl ⟨by rfl, ?_⟩) ?_ ?_
  rotate_left
  · intro w'
    go_simp
    with_reducible rfl
  rotate_left
  · simp only [Act.put, List.setIfInBounds_toArray, List.set_cons_zero, List.set_cons_succ, i64_w, i32_w]
    rfl
  refine pure_ (i := 2) (N := some 69) (v := ?_) (a' := ?_) #[true, true, true, false, false, false, false, false, false, false, false, false, false] rfl rfl (by kernel_rfl) (fun _ _ _ h => h) (Or.inl ⟨by rfl, ?_⟩) ?_ ?_
  rotate_left
  · intro w'
    go_simp
    with_reducible rfl
  rotate_left
  · simp only [Act.put, List.setIfInBounds_toArray, List.set_cons_zero, List.set_cons_succ, i64_w, i32_w]
    rfl
  refine pure_ (i := 3) (N := some 70) (v := ?_) (a' := ?_) #[true, true, true, true, false, false, false, false, false, false, false, false, false] rfl rfl (by kernel_rfl) (fun _ _ _ h => h) (Or.inl ⟨by rfl, ?_⟩) ?_ ?_
  rotate_left
  · intro w'
    go_simp
    with_reducible rfl
  rotate_left
  · simp only [Act.put, List.setIfInBounds_toArray, List.set_cons_zero, List.set_cons_succ, i64_w, i32_w]
    rfl
  refine pure_ (i := 4) (N := some 71) (v := ?_) (a' := ?_) #[true, true, true, true, true, false, false, false, false, false, false, false, false] rfl rfl (by kernel_rfl) (fun _ _ _ h => h) (Or.inl ⟨by rfl, ?_⟩) ?_ ?_
  rotate_left
  · intro w'
    go_simp
    with_reducible rfl
  rotate_left
  · simp only [Act.put, List.setIfInBounds_toArray, List.set_cons_zero, List.set_cons_succ, i64_w, i32_w]
    rfl
  refine take_ (i := 5) (N := some 72) (v := ?_) (a' := ?_) #[true, true, true, true, true, true, false, false, false, false, false, false, false] rfl rfl (by kernel_rfl) (fun _ _ _ h => h) (Or.inl ⟨by rfl, ?_⟩) hHeld ?_ ?_
  rotate_left
  · rintro w' ⟨s0, s1, s2⟩
    go_simp
    with_reducible rfl
  rotate_left
  · simp only [Act.put, List.setIfInBounds_toArray, List.set_cons_zero, List.set_cons_succ, i64_w, i32_w]
    rfl
  refine take_ (i := 6) (N := some 73) (v := ?_) (a' := ?_) #[true, true, true, true, true, true, true, false, false, false, false, false, false] rfl rfl (by kernel_rfl) (fun _ _ _ h => h) (Or.inl ⟨by rfl, ?_⟩) hHeld ?_ ?_
  rotate_left
  · rintro w' ⟨s0, s1, s2⟩
    go_simp
    with_reducible rfl
  rotate_left
  · simp only [Act.put, List.setIfInBounds_toArray, List.set_cons_zero, List.set_cons_succ, i64_w, i32_w]
    rfl
  refine one_ (i := 7) (N := some 74) #[true, true, true, true, true, true, true, true, false, false, false, false, false] rfl rfl (by kernel_rfl) (by decide) (fun K hK => ?_)
  refine value_ (w1 := ?_) (v := ?_) (by rfl) rfl ?_ ?_
  rotate_left 2
  · go_simp
    constructor
    · rfl
    · rfl
  refine hK.out _ _ ⟨(blk_cell (blk_alloc BG6.out _) 1).trans rfl, (blk_cell (blk_alloc BK6.out _) 0).trans rfl, (blk_cell (blk_alloc BK6.out _) 1).trans rfl⟩ (fun hHeld => ?_)
  clear hK K
  refine norm_ (a' := ?_) ?_ ?_
  rotate_left
  · show Act.put _ (some 74) _ = _
    simp only [Act.put, List.setIfInBounds_toArray, List.set_cons_zero, List.set_cons_succ, i64_w, i32_w]
    rfl
  refine one_ (i := 8) (N := some 75) #[true, true, true, true, true, true, true, true, true, false, false, false, false] rfl rfl (by kernel_rfl) (by decide) (fun K hK => ?_)
  refine Kd.R_append_step k79 (w0 := w0) w0.heap.size (by rfl) (.tmp 72) (.tmp 74) 27 79 (.agg #[(.int .i64 0), (.int .i64 0)]) 16 rfl Try.underlying27 info79 rfl (by decide) (by omega) (.slice A L.length c) L (⟨lo, hi⟩ : S79) [.int .i64 lo, .int .i64 hi] (fun _ => True) (fun _ => False) rfl rfl ?aP (fun _ hk => hk.elim) ?aF ?aO ?aB ?aS ?aL ?_
  (case aP => exact k79_mkM _ _ _ (⟨lo, hi⟩ : S79))
  (case aB => exact HB6.out)
  (case aF => exact (fun _ _ => trivial))
  (case aO => exact HR6.out)
  (case aS => exact below_size HB6.out)
  (case aL => omega)
  intro v7 w7 ho hbx hg hat
  obtain ⟨A7, c7, e7⟩ := Kd.R_slice ho
  obtain ⟨n7, hn7⟩ : ∃ n, n = (L ++ [(⟨lo, hi⟩ : S79)]).length := ⟨_, rfl⟩
  rw [← hn7] at e7
  subst e7
  have N7 := Aside0.mk hn7
  clear hn7
  have NE : Aside0 (g ≠ gk) := ⟨fun e => by have := GK.out; have := hltg.out; omega⟩
  have BG7 := Aside0.mk (blk_grown BG6.out hg (Kd.R_ne HR6.out BG6.out (by decide)))
  have BK7 := Aside0.mk (blk_grown BK6.out hg (fun e => by have := hltr.out gk e.symm; have := GK.out; omega))
  have HM7 := Aside0.mk (HM6.out.kept hg (fun e => by obtain ⟨cells, hc⟩ := Kd.R_typed HR6.out mb e.symm; exact HM6.out.ne hc rfl))
  have F7 : Aside0 (Fr g w w7) := ⟨fun k cs T h1 h2 h => blk_grown (F6.out k cs T h1 h2 h) hg (fun e => by obtain ⟨cells, hc⟩ := Kd.R_typed HR6.out k e.symm; have h3 := F6.out k cs T h1 h2 h; rw [hc] at h3; injection h3 with h3; injection h3 with _ h3; exact h2 h3.symm)⟩
  have HR7 := Aside0.mk ho
  have HB7 := Aside0.mk hbx
  clear ho hbx hg hat HR6 HB6 F6 HM6
  refine hK.out _ _ ⟨(blk_cell BG7.out 1).trans rfl, (blk_cell BK7.out 0).trans rfl, (blk_cell BK7.out 1).trans rfl⟩ (fun hHeld => ?_)
  clear hK K
  refine norm_ (a' := ?_) ?_ ?_
  rotate_left
  · show Act.put _ (some 75) _ = _
    simp only [Act.put, List.setIfInBounds_toArray, List.set_cons_zero, List.set_cons_succ, i64_w, i32_w]
    rfl
  refine pure_ (i := 9) (N := some 76) (v := ?_) (a' := ?_) #[true, true, true, true, true, true, true, true, true, true, false, false, false] rfl rfl (by kernel_rfl) (fun _ _ _ h => h) (Or.inl ⟨by rfl, ?_⟩) ?_ ?_
  rotate_left
  · intro w'
    go_simp
    with_reducible rfl
  rotate_left
  · simp only [Act.put, List.setIfInBounds_toArray, List.set_cons_zero, List.set_cons_succ, i64_w, i32_w]
    rfl
  refine pure_ (i := 10) (N := some 77) (v := ?_) (a' := ?_) #[true, true, true, true, true, true, true, true, true, true, true, false, false] rfl rfl (by kernel_rfl) (fun _ _ _ h => h) (Or.inl ⟨by rfl, ?_⟩) ?_ ?_
  rotate_left
  · intro w'
    go_simp
    with_reducible rfl
  rotate_left
  · simp only [Act.put, List.setIfInBounds_toArray, List.set_cons_zero, List.set_cons_succ, i64_w, i32_w]
    rfl
  refine pure_ (i := 11) (N := some 78) (v := ?_) (a' := ?_) #[true, true, true, true, true, true, true, true, true, true, true, true, false] rfl rfl (by kernel_rfl) (fun _ _ _ h => h) (Or.inl ⟨by rfl, ?_⟩) ?_ ?_
  rotate_left
  · intro w'
    go_simp
    with_reducible rfl
  rotate_left
  · simp only [Act.put, List.setIfInBounds_toArray, List.set_cons_zero, List.set_cons_succ, i64_w, i32_w]
    rfl
  refine last_ (i := 12) (N := none) #[true, true, true, true, true, true, true, true, true, true, true, true, true] rfl rfl (by kernel_rfl) (by decide) (fun K hK => ?_)
  have hs7 : w7.cell? ⟨g, 1, none⟩ = some (.slice A L.length c) := (blk_cell BG7.out 1).trans rfl
  have hfs7 := blk_frozen BG7.out 1
  refine skip_ (w1 := ?_) (by rfl) rfl ?_ ?_
  rotate_left
  · go_simp
    rfl
  clear hs7 hfs7
  refine hK.out _ _ ?_
  clear hK K
  refine done_ (by kernel_rfl) ?_

  clear hHeld
  have BG8 : Aside0 ((w7.setCell ⟨g, 1, none⟩ (Value.slice A7 n7 c7)).heap[g]? = some (.cells #[.int .i64 ins, .slice A7 n7 c7, .map (some mb)] 104 (0, 0))) := ⟨blk_put (cs := #[.int .i64 ins, .slice A L.length c, .map (some mb)]) BG7.out 1 (Value.slice A7 n7 c7) rfl⟩
  have BK8 := Aside0.mk (blk_far BK7.out NE.out.symm (p := (⟨g, 1, none⟩ : Addr)) (Value.slice A7 n7 c7))
  have HR8 := Aside0.mk (Kd.R_set HR7.out BG7.out (by decide) 1 (Value.slice A7 n7 c7))
  have HM8 := Aside0.mk (HM7.out.setCell (p := (⟨g, 1, none⟩ : Addr)) (HM7.out.ne BG7.out) (Value.slice A7 n7 c7))
  have HB8 := Aside0.mk (below_set (j := 1) (v := (Value.slice A7 n7 c7)) HB7.out GG.out)
  have F8 : Aside0 (Fr g w (w7.setCell ⟨g, 1, none⟩ (Value.slice A7 n7 c7))) := ⟨fun k cs T h1 h2 h => blk_far (F7.out k cs T h1 h2 h) h1 _⟩
  clear BG7 BK7 HR7 HM7 HB7 F7
  generalize w7.setCell ⟨g, 1, none⟩ (Value.slice A7 n7 c7) = w8 at BG8 BK8 HR8 HM8 HB8 F8 ⊢
  go_upto_region 15 with (fail)
  have BD8 := Aside0.mk (below_drew1 (Below.refl w8.heap.size w8))
  have BK9 := Aside0.mk (blk_below BK8.out BD8.out)
  have BG9 := Aside0.mk (blk_below BG8.out BD8.out)
  have HM9 := Aside0.mk (HM8.out.below BD8.out HM8.out.lt)
  have HR9 := Aside0.mk (Kd.R_below HR8.out BD8.out)
  have HB9 := Aside0.mk (below_step HB8.out BD8.out)
  have F9 : Aside0 (Fr g w w8.drew) := ⟨fun k cs T h1 h2 h => blk_below (F8.out k cs T h1 h2 h) BD8.out⟩
  clear BK8 BG8 HM8 HR8 HB8 F8 BD8
  refine start_ (n := 7) (S := fun w' => w'.cell? ⟨g, 2, none⟩ = some (.map (some mb)) ∧ w'.cell? ⟨gk, 0, none⟩ = some (.int .i64 lo) ∧ w'.cell? ⟨gk, 1, none⟩ = some (.int .i64 hi)) (ds := [6]) #[false, false, false, false, false, false, false] (by kernel_rfl) rfl rfl ⟨(blk_cell BG9.out 2).trans rfl, (blk_cell BK9.out 0).trans rfl, (blk_cell BK9.out 1).trans rfl⟩ (fun hHeld => ?_)
  generalize w8.drew = w9 at BK9 BG9 HM9 HR9 HB9 F9 hHeld ⊢
  refine pure_ (i := 0) (N := some 79) (v := ?_) (a' := ?_) #[true, false, false, false, false, false, false] rfl rfl (by kernel_rfl) (fun _ _ _ h => h) (Or.inl ⟨by rfl, ?_⟩) ?_ ?_
  rotate_left
  · intro w'
    go_simp
    with_reducible rfl
  rotate_left
  · simp only [Act.put, List.setIfInBounds_toArray, List.set_cons_zero, List.set_cons_succ, i64_w, i32_w]
    rfl
  refine pure_ (i := 1) (N := some 80) (v := ?_) (a' := ?_) #[true, true, false, false, false, false, false] rfl rfl (by kernel_rfl) (fun _ _ _ h => h) (Or.inl ⟨by rfl, ?_⟩) ?_ ?_
  rotate_left
  · intro w'
    go_simp
    with_reducible rfl
  rotate_left
  · simp only [Act.put, List.setIfInBounds_toArray, List.set_cons_zero, List.set_cons_succ, i64_w, i32_w]
    rfl
  refine pure_ (i := 2) (N := some 81) (v := ?_) (a' := ?_) #[true, true, true, false, false, false, false] rfl rfl (by kernel_rfl) (fun _ _ _ h => h) (Or.inl ⟨by rfl, ?_⟩) ?_ ?_
  rotate_left
  · intro w'
    go_simp
    with_reducible rfl
  rotate_left
  · simp only [Act.put, List.setIfInBounds_toArray, List.set_cons_zero, List.set_cons_succ, i64_w, i32_w]
    rfl
  refine pure_ (i := 5) (N := some 84) (v := ?_) (a' := ?_) #[true, true, true, false, false, true, false] rfl rfl (by kernel_rfl) (fun _ _ _ h => h) (Or.inl ⟨by rfl, ?_⟩) ?_ ?_
  rotate_left
  · intro w'
    go_simp
    with_reducible rfl
  rotate_left
  · simp only [Act.put, List.setIfInBounds_toArray, List.set_cons_zero, List.set_cons_succ, i64_w, i32_w]
    rfl
  refine take_ (i := 3) (N := some 82) (v := ?_) (a' := ?_) #[true, true, true, true, false, true, false] rfl rfl (by kernel_rfl) (fun _ _ _ h => h) (Or.inl ⟨by rfl, ?_⟩) hHeld ?_ ?_
  rotate_left
  · rintro w' ⟨s0, s1, s2⟩
    go_simp
    with_reducible rfl
  rotate_left
  · simp only [Act.put, List.setIfInBounds_toArray, List.set_cons_zero, List.set_cons_succ, i64_w, i32_w]
    rfl
  refine take_ (i := 4) (N := some 83) (v := ?_) (a' := ?_) #[true, true, true, true, true, true, false] rfl rfl (by kernel_rfl) (fun _ _ _ h => h) (Or.inl ⟨by rfl, ?_⟩) hHeld ?_ ?_
  rotate_left
  · rintro w' ⟨s0, s1, s2⟩
    go_simp
    with_reducible rfl
  rotate_left
  · simp only [Act.put, List.setIfInBounds_toArray, List.set_cons_zero, List.set_cons_succ, i64_w, i32_w]
    rfl
  refine last_ (i := 6) (N := none) #[true, true, true, true, true, true, true] rfl rfl (by kernel_rfl) (by decide) (fun K hK => ?_)
  refine mput_step (κ := S79) (P := Try.prog) (t := 81) (k := 79) (e := 3) (m := atMap ins L) (by rfl) rfl (.tmp 82) (.tmp 83) (.tmp 84) rfl andCodec Try.underlying81 Try.underlying3 HM9.out rfl ⟨lo, hi⟩ rfl hwf.out _ rfl hvf.out hml.out ?_
  intro w10 hm10 hg10
  have HM10 := Aside0.mk hm10
  have BG10 := Aside0.mk (blk_grown BG9.out hg10 (fun e => HM9.out.ne BG9.out (Option.some.inj e).symm))
  have HR10 : Aside0 (Kd.R k79 79 w10 w0.heap.size (fun _ => True) (Value.slice A7 n7 c7) (L ++ [⟨lo, hi⟩])) := ⟨Kd.R_mono (Kd.R_grown (Kd.R_bound HR9.out) hg10 (fun k hk e => by obtain ⟨_, _, _, q, hq, cells, hc⟩ := hk; exact HM9.out.ne hc (Option.some.inj e).symm)) (fun _ _ => trivial)⟩
  have HB10 := Aside0.mk (pw_below_grown HB9.out (some mb) HB9.out.size hg10 (fun k_ hk_ => by injection hk_ with hk_; subst hk_; exact GM.out))
  have F10 : Aside0 (Fr g w w10) := ⟨fun k cs T h1 h2 h => blk_grown (F9.out k cs T h1 h2 h) hg10 (fun e => HM9.out.ne (F9.out k cs T h1 h2 h) (Option.some.inj e).symm)⟩
  clear hm10 hg10
  refine hK.out _ _ ?_
  clear hK K
  refine done_ (by kernel_rfl) ?_

  clear hHeld
  go_wp2
  go_ret
  have hE := HE.out
  rw [if_neg (show ¬ mhas (atMap ins L) ⟨lo, hi⟩ = true by rw [d8]; decide), if_neg d9.out] at hE
  subst hE
  have hn := N7.out
  subst hn
  exact ⟨rfl, ⟨A7, c7, mb, BG10.out, HR10.out, (by rw [atMap_app]; exact HM10.out), GG.out, GM.out⟩, HB10.out, F10.out⟩
theorem wraps62 : ∀ n : Int, 0 ≤ n → n < 2 ^ 62 → IntKind.wrap .i64 n = n := fun n h0 h1 => by rw [IntKind.wrap_i64]; omega
theorem xor_nat (a b : Nat) (ha : a < 2 ^ 62) (hb : b < 2 ^ 62) : Go.bits .xor .i64 (a : Int) (b : Int) = ((a ^^^ b : Nat) : Int) := by
  have ha' : a % 2 ^ IntKind.i64.bits = a := Nat.mod_eq_of_lt (Nat.lt_of_lt_of_le ha (by decide))
  have hb' : b % 2 ^ IntKind.i64.bits = b := Nat.mod_eq_of_lt (Nat.lt_of_lt_of_le hb (by decide))
  simp only [bits, BitVec.ofInt_natCast, BitVec.toNat_xor, BitVec.toNat_ofNat, ha', hb']
  exact wraps62 _ (Int.natCast_nonneg _) (by exact_mod_cast Nat.xor_lt_two_pow ha hb)
theorem turn_bd {x : Int} (h : 0 ≤ x ∧ x ≤ 1048575) : 0 ≤ Go.bits .xor .i64 x 1 ∧ Go.bits .xor .i64 x 1 ≤ 1048575 := by
  obtain ⟨n, rfl⟩ := Int.eq_ofNat_of_zero_le h.1
  have h1 := xor_nat n 1 (by omega) (by decide)
  rw [show ((1 : Nat) : Int) = 1 from rfl] at h1
  rw [h1]
  have := Nat.xor_lt_two_pow (x := n) (y := 1) (n := 20) (by omega) (by decide)
  omega
theorem mget_at (ins : Int) (L : List S79) (k : S79) : mget (atMap ins L) k = 0 ∨ ∃ i : Nat, i < L.length ∧ mget (atMap ins L) k = 2 * (ins + 1 + i) := by
  suffices h : ∀ l : List (S79 × Int), (∀ p ∈ l, ∃ i : Nat, i < L.length ∧ p.2 = 2 * (ins + 1 + i)) → mget l k = 0 ∨ ∃ i : Nat, i < L.length ∧ mget l k = 2 * (ins + 1 + i) by
    refine h _ fun p hp => ?_
    simp only [atMap, List.mem_reverse, List.mem_map, List.mem_range] at hp
    obtain ⟨i, hi, rfl⟩ := hp
    exact ⟨i, hi, rfl⟩
  intro l
  induction l with
  | nil => intro _; exact .inl rfl
  | cons p r ih =>
    intro h
    unfold mget
    split
    · obtain ⟨i, hi, e⟩ := h p (by simp)
      exact .inr ⟨i, hi, e⟩
    · exact ih fun q hq => h q (by simp [hq])
theorem andR_bd {ins : Int} {L : List S79} {x y : Int} (hin : 0 ≤ ins ∧ ins ≤ 1000) (hL : L.length ≤ 3000) (hx : 0 ≤ x ∧ x ≤ 1048575) (hy : 0 ≤ y ∧ y ≤ 1048575) :
    (-1 ≤ (andR ins L x y).2 ∧ (andR ins L x y).2 ≤ 1048575) ∧ (andR ins L x y).1.length ≤ 3000 := by
  unfold andR
  have hm := mget_at ins L ⟨min x y, max x y⟩
  repeat' split
  all_goals refine ⟨?_, ?_⟩
  all_goals try (simp only [List.length_append, List.length_singleton])
  all_goals first | omega | (rcases hm with h | ⟨i, hi, h⟩ <;> rw [h] <;> omega)
def orR (ins : Int) (L : List S79) (x y : Int) : List S79 × Int :=
  ((andR ins L (Go.bits .xor .i64 x 1) (Go.bits .xor .i64 y 1)).1, if (andR ins L (Go.bits .xor .i64 x 1) (Go.bits .xor .i64 y 1)).2 < 0 then -1 else Go.bits .xor .i64 (andR ins L (Go.bits .xor .i64 x 1) (Go.bits .xor .i64 y 1)).2 1)
theorem orR_bd {ins : Int} {L : List S79} {x y : Int} (hin : 0 ≤ ins ∧ ins ≤ 1000) (hL : L.length ≤ 3000) (hx : 0 ≤ x ∧ x ≤ 1048575) (hy : 0 ≤ y ∧ y ≤ 1048575) :
    (-1 ≤ (orR ins L x y).2 ∧ (orR ins L x y).2 ≤ 1048575) ∧ (orR ins L x y).1.length ≤ 3000 := by
  have h := andR_bd hin hL (turn_bd hx) (turn_bd hy)
  unfold orR
  refine ⟨?_, h.2⟩
  dsimp only
  split
  · omega
  · have := turn_bd (x := (andR ins L (Go.bits .xor .i64 x 1) (Go.bits .xor .i64 y 1)).2) ⟨by omega, h.1.2⟩
    omega
theorem Fr.trans {g : Nat} {w w1 w2 : World} (h : Fr g w w1) (h2 : Fr g w1 w2) : Fr g w w2 := fun k cs T a b c => h2 k cs T a b (h k cs T a b c)
set_option maxHeartbeats 8000000 in
set_option maxRecDepth 100000 in
theorem builder_or.calls (w0 : World) (g : Nat) (ins : Int) (L : List S79) (x y : Int) (w : World) (hI : IsBx w w0.heap.size g ins L) (hB : Below w0.heap.size w0 w)
    (hx : 0 ≤ x ∧ x ≤ 1048575) (hy : 0 ≤ y ∧ y ≤ 1048575) (hin : 0 ≤ ins ∧ ins ≤ 1000) (hL : L.length ≤ 3000) :
    Calls Try.prog 79 #[.pointer (some ⟨g, 0, none⟩), .int .i64 x, .int .i64 y] w fun e w' => e = .returned (.int .i64 (orR ins L x y).2) ∧ IsBx w' w0.heap.size g ins (orR ins L x y).1 ∧ Below w0.heap.size w0 w' ∧ Fr g w w' := by
  have HI := Aside0.mk hI
  have HB := Aside0.mk hB
  have HX := Aside0.mk (turn_bd hx)
  have HY := Aside0.mk (turn_bd hy)
  have HN := Aside0.mk hin
  have HL := Aside0.mk hL
  clear hI hB hx hy hin hL
  have hE : orR ins L x y = orR ins L x y := rfl
  conv at hE => rhs; unfold orR
  generalize orR ins L x y = r at hE ⊢
  obtain ⟨q, hq⟩ : ∃ q, andR ins L (Go.bits .xor .i64 x 1) (Go.bits .xor .i64 y 1) = q := ⟨_, rfl⟩
  rw [hq] at hE
  obtain ⟨q1, q2⟩ := q
  dsimp only at hE
  have HQ := Aside0.mk hq
  by_cases c1 : q2 < 0
  · rw [if_pos c1] at hE
    subst hE
    have d1 : decide (q2 < 0) = true := decide_eq_true c1
    clear c1 hq
    go_enter Try.func79, Try.ntmps79
    go_wp2_with (first | ((with_reducible refine gate_callee (f := 74) rfl ?_); (try (refine gate_guard (by rfl) ?_; dsimp only)); refine goesL_ (some 13) rfl rfl Try.func74 (by kernel_rfl) rfl #[.pointer (some ⟨g, 0, none⟩), .int .i64 (Go.bits .xor .i64 x 1), .int .i64 (Go.bits .xor .i64 y 1)] rfl (by (try simp only [List.map_toArray, List.map_cons, List.map_nil]); first | done | rfl) ?_; (with_reducible refine (builder_and.calls w0 g ins L _ _ _ HI.out HB.out HX.out HY.out HN.out HL.out).mono ?_); rw [HQ.out]; rintro e w3 ⟨rfl, hI3, hB3, hF3⟩; refine ⟨_, rfl, ?_⟩; have HI3 := Aside0.mk hI3; have HB3 := Aside0.mk hB3; have HF3 := Aside0.mk hF3; clear hI3 hB3 hF3))
    go_ret
    exact ⟨rfl, HI3.out, HB3.out, HF3.out⟩
  · rw [if_neg c1] at hE
    subst hE
    have d1 : decide (q2 < 0) = false := decide_eq_false c1
    clear c1 hq
    go_enter Try.func79, Try.ntmps79
    go_wp2_with (first | ((with_reducible refine gate_callee (f := 74) rfl ?_); (try (refine gate_guard (by rfl) ?_; dsimp only)); refine goesL_ (some 13) rfl rfl Try.func74 (by kernel_rfl) rfl #[.pointer (some ⟨g, 0, none⟩), .int .i64 (Go.bits .xor .i64 x 1), .int .i64 (Go.bits .xor .i64 y 1)] rfl (by (try simp only [List.map_toArray, List.map_cons, List.map_nil]); first | done | rfl) ?_; (with_reducible refine (builder_and.calls w0 g ins L _ _ _ HI.out HB.out HX.out HY.out HN.out HL.out).mono ?_); rw [HQ.out]; rintro e w3 ⟨rfl, hI3, hB3, hF3⟩; refine ⟨_, rfl, ?_⟩; have HI3 := Aside0.mk hI3; have HB3 := Aside0.mk hB3; have HF3 := Aside0.mk hF3; clear hI3 hB3 hF3))
    go_ret
    exact ⟨rfl, HI3.out, HB3.out, HF3.out⟩
def pickR (ins : Int) (L : List S79) (x p q : Int) : List S79 × Int :=
  if (andR ins L x p).2 < 0 then ((andR ins L x p).1, -1)
  else if (andR ins (andR ins L x p).1 (Go.bits .xor .i64 x 1) q).2 < 0 then ((andR ins (andR ins L x p).1 (Go.bits .xor .i64 x 1) q).1, -1)
  else orR ins (andR ins (andR ins L x p).1 (Go.bits .xor .i64 x 1) q).1 (andR ins L x p).2 (andR ins (andR ins L x p).1 (Go.bits .xor .i64 x 1) q).2
theorem pickR_bd {ins : Int} {L : List S79} {x p q : Int} (hin : 0 ≤ ins ∧ ins ≤ 1000) (hL : L.length ≤ 3000) (hx : 0 ≤ x ∧ x ≤ 1048575) (hp : 0 ≤ p ∧ p ≤ 1048575) (hq : 0 ≤ q ∧ q ≤ 1048575) :
    (-1 ≤ (pickR ins L x p q).2 ∧ (pickR ins L x p q).2 ≤ 1048575) ∧ (pickR ins L x p q).1.length ≤ 3000 := by
  have h1 := andR_bd hin hL hx hp
  have h2 := andR_bd hin h1.2 (turn_bd hx) hq
  unfold pickR
  split
  · exact ⟨by dsimp only; omega, h1.2⟩
  split
  · exact ⟨by dsimp only; omega, h2.2⟩
  exact orR_bd hin h2.2 (by omega) (by omega)
set_option maxHeartbeats 8000000 in
set_option maxRecDepth 100000 in
theorem builder_pick.calls (w0 : World) (g : Nat) (ins : Int) (L : List S79) (x p q : Int) (w : World) (hI : IsBx w w0.heap.size g ins L) (hB : Below w0.heap.size w0 w)
    (hx : 0 ≤ x ∧ x ≤ 1048575) (hp : 0 ≤ p ∧ p ≤ 1048575) (hq : 0 ≤ q ∧ q ≤ 1048575) (hin : 0 ≤ ins ∧ ins ≤ 1000) (hL : L.length ≤ 3000) :
    Calls Try.prog 82 #[.pointer (some ⟨g, 0, none⟩), .int .i64 x, .int .i64 p, .int .i64 q] w fun e w' => e = .returned (.int .i64 (pickR ins L x p q).2) ∧ IsBx w' w0.heap.size g ins (pickR ins L x p q).1 ∧ Below w0.heap.size w0 w' ∧ Fr g w w' := by
  have HI := Aside0.mk hI
  have HB := Aside0.mk hB
  have HX := Aside0.mk hx
  have HT := Aside0.mk (turn_bd hx)
  have HP := Aside0.mk hp
  have HQ := Aside0.mk hq
  have HN := Aside0.mk hin
  have HL := Aside0.mk hL
  have b1 := andR_bd hin hL hx hp
  have b2 := andR_bd hin b1.2 (turn_bd hx) hq
  clear hI hB hx hp hq hin hL
  have hE : pickR ins L x p q = pickR ins L x p q := rfl
  conv at hE => rhs; unfold pickR
  generalize pickR ins L x p q = r at hE ⊢
  obtain ⟨u, hu⟩ : ∃ u, andR ins L x p = u := ⟨_, rfl⟩
  rw [hu] at hE b1 b2
  obtain ⟨u1, u2⟩ := u
  dsimp only at hE b1 b2
  obtain ⟨v, hv⟩ : ∃ v, andR ins u1 (Go.bits .xor .i64 x 1) q = v := ⟨_, rfl⟩
  rw [hv] at hE b2
  obtain ⟨v1, v2⟩ := v
  dsimp only at hE b2
  have HU := Aside0.mk hu
  have HV := Aside0.mk hv
  clear hu hv
  have B1 := Aside0.mk b1
  have B2 := Aside0.mk b2
  clear b1 b2
  by_cases c1 : u2 < 0
  · rw [if_pos c1] at hE
    subst hE
    have d1 : decide (u2 < 0) = true := decide_eq_true c1
    clear c1
    go_enter Try.func82, Try.ntmps82
    go_wp2_with (first | ((with_reducible refine gate_callee (f := 74) rfl ?_); (try (refine gate_guard (by rfl) ?_; dsimp only)); refine goesL_ (some 14) rfl rfl Try.func74 (by kernel_rfl) rfl #[.pointer (some ⟨g, 0, none⟩), .int .i64 x, .int .i64 p] rfl (by (try simp only [List.map_toArray, List.map_cons, List.map_nil]); first | done | rfl) ?_; (with_reducible refine (builder_and.calls w0 g ins L _ _ _ HI.out HB.out HX.out HP.out HN.out HL.out).mono ?_); rw [HU.out]; rintro e w3 ⟨rfl, hI, hB, hF⟩; refine ⟨_, rfl, ?_⟩; have HI3 := Aside0.mk hI; have HB3 := Aside0.mk hB; have HF3 := Aside0.mk hF; clear hI hB hF))
    go_ret
    exact ⟨rfl, HI3.out, HB3.out, HF3.out⟩
  rw [if_neg c1] at hE
  have d1 : decide (u2 < 0) = false := decide_eq_false c1
  have C1 := Aside0.mk (show 0 ≤ u2 by omega)
  clear c1
  by_cases c2 : v2 < 0
  · rw [if_pos c2] at hE
    subst hE
    have d2 : decide (v2 < 0) = true := decide_eq_true c2
    clear c2
    go_enter Try.func82, Try.ntmps82
    go_wp2_with (first | ((with_reducible refine gate_callee (f := 74) rfl ?_); (try (refine gate_guard (by rfl) ?_; dsimp only)); refine goesL_ (some 14) rfl rfl Try.func74 (by kernel_rfl) rfl #[.pointer (some ⟨g, 0, none⟩), .int .i64 x, .int .i64 p] rfl (by (try simp only [List.map_toArray, List.map_cons, List.map_nil]); first | done | rfl) ?_; (with_reducible refine (builder_and.calls w0 g ins L _ _ _ HI.out HB.out HX.out HP.out HN.out HL.out).mono ?_); rw [HU.out]; rintro e w3 ⟨rfl, hI, hB, hF⟩; refine ⟨_, rfl, ?_⟩; have HI3 := Aside0.mk hI; have HB3 := Aside0.mk hB; have HF3 := Aside0.mk hF; clear hI hB hF) | ((with_reducible refine gate_callee (f := 74) rfl ?_); (try (refine gate_guard (by rfl) ?_; dsimp only)); refine goesL_ (some 21) rfl rfl Try.func74 (by kernel_rfl) rfl #[.pointer (some ⟨g, 0, none⟩), .int .i64 (Go.bits .xor .i64 x 1), .int .i64 q] rfl (by (try simp only [List.map_toArray, List.map_cons, List.map_nil]); first | done | rfl) ?_; (with_reducible refine (builder_and.calls w0 g ins u1 _ _ _ HI3.out HB3.out HT.out HQ.out HN.out B1.out.2).mono ?_); rw [HV.out]; rintro e w4 ⟨rfl, hI, hB, hF⟩; refine ⟨_, rfl, ?_⟩; have HI4 := Aside0.mk hI; have HB4 := Aside0.mk hB; have HF4 := Aside0.mk (HF3.out.trans hF); clear hI hB hF))
    go_ret
    exact ⟨rfl, HI4.out, HB4.out, HF4.out⟩
  rw [if_neg c2] at hE
  have d2 : decide (v2 < 0) = false := decide_eq_false c2
  have C2 := Aside0.mk (show 0 ≤ v2 by omega)
  clear c2
  have HW := Aside0.mk hE.symm
  clear hE
  go_enter Try.func82, Try.ntmps82
  go_wp2_with (first | ((with_reducible refine gate_callee (f := 74) rfl ?_); (try (refine gate_guard (by rfl) ?_; dsimp only)); refine goesL_ (some 14) rfl rfl Try.func74 (by kernel_rfl) rfl #[.pointer (some ⟨g, 0, none⟩), .int .i64 x, .int .i64 p] rfl (by (try simp only [List.map_toArray, List.map_cons, List.map_nil]); first | done | rfl) ?_; (with_reducible refine (builder_and.calls w0 g ins L _ _ _ HI.out HB.out HX.out HP.out HN.out HL.out).mono ?_); rw [HU.out]; rintro e w3 ⟨rfl, hI, hB, hF⟩; refine ⟨_, rfl, ?_⟩; have HI3 := Aside0.mk hI; have HB3 := Aside0.mk hB; have HF3 := Aside0.mk hF; clear hI hB hF) | ((with_reducible refine gate_callee (f := 74) rfl ?_); (try (refine gate_guard (by rfl) ?_; dsimp only)); refine goesL_ (some 21) rfl rfl Try.func74 (by kernel_rfl) rfl #[.pointer (some ⟨g, 0, none⟩), .int .i64 (Go.bits .xor .i64 x 1), .int .i64 q] rfl (by (try simp only [List.map_toArray, List.map_cons, List.map_nil]); first | done | rfl) ?_; (with_reducible refine (builder_and.calls w0 g ins u1 _ _ _ HI3.out HB3.out HT.out HQ.out HN.out B1.out.2).mono ?_); rw [HV.out]; rintro e w4 ⟨rfl, hI, hB, hF⟩; refine ⟨_, rfl, ?_⟩; have HI4 := Aside0.mk hI; have HB4 := Aside0.mk hB; have HF4 := Aside0.mk (HF3.out.trans hF); clear hI hB hF) | ((with_reducible refine gate_callee (f := 79) rfl ?_); (try (refine gate_guard (by rfl) ?_; dsimp only)); refine goesL_ (some 27) rfl rfl Try.func79 (by kernel_rfl) rfl #[.pointer (some ⟨g, 0, none⟩), .int .i64 u2, .int .i64 v2] rfl (by (try simp only [List.map_toArray, List.map_cons, List.map_nil]); first | done | rfl) ?_; (with_reducible refine (builder_or.calls w0 g ins v1 _ _ _ HI4.out HB4.out ⟨C1.out, B1.out.1.2⟩ ⟨C2.out, B2.out.1.2⟩ HN.out B2.out.2).mono ?_); rw [HW.out]; rintro e w5 ⟨rfl, hI, hB, hF⟩; refine ⟨_, rfl, ?_⟩; have HI5 := Aside0.mk hI; have HB5 := Aside0.mk hB; have HF5 := Aside0.mk (HF4.out.trans hF); clear hI hB hF))
  go_ret
  exact ⟨rfl, HI5.out, HB5.out, HF5.out⟩
def pm (ins : Int) (L : List S79) (n : Nat) : List (S79 × Int) := ((List.range n).map fun i : Nat => (rd_T79 L (i : Int), 2 * (ins + 1 + (i : Int)))).reverse
theorem pm_succ (ins : Int) (L : List S79) (n : Nat) : pm ins L (n + 1) = (rd_T79 L (n : Int), 2 * (ins + 1 + (n : Int))) :: pm ins L n := by
  unfold pm
  rw [List.range_succ, List.map_append, List.reverse_append, List.map_singleton, List.reverse_singleton, List.singleton_append]
theorem pm_length (ins : Int) (L : List S79) (n : Nat) : (pm ins L n).length = n := by simp [pm]
set_option maxHeartbeats 8000000 in
set_option maxRecDepth 100000 in
theorem newBuilder.calls (ins : Int) (A : Option Addr) (c : Nat) (L : List S79) (w : World) (hr : Kd.C k79 w A L.length L) (hc : L.length ≤ c) (hin : 0 ≤ ins ∧ ins ≤ 1000) (hL : L.length ≤ 3000) (hwfL : ∀ i : Nat, i < L.length → wfAnd (rd_T79 L (i : Int))) :
    Calls Try.prog 85 #[.agg #[.int .i64 ins, .slice A L.length c]] w fun e w' => ∃ g, e = .returned (.pointer (some ⟨g, 0, none⟩)) ∧ IsBx w' w.heap.size g ins L ∧ Below w.heap.size w w' := by
  have HR := Aside0.mk hr
  have HC := Aside0.mk hc
  have HN := Aside0.mk hin
  have HL := Aside0.mk hL
  have HF := Aside0.mk hwfL
  have HCG : Aside0 (impl_copyGraph.f ins L = some (ins, L)) := ⟨by unfold impl_copyGraph.f; rw [if_pos (by simp; omega)]; rfl⟩
  clear hr hc hin hL hwfL
  go_enter Try.func85, Try.ntmps85
  go_wp2_with (first | ((with_reducible refine gate_dst (N := 1) rfl ?_); refine box_event ?hg (N := 1) ?hd (cs := #[.int .i64 ins, .slice A L.length c]) (t := 29) ?hr ?_; (case hd => rfl); (case hg => rfl); (case hr => first | (go_simp; done) | (go_simp; rfl)); intro g1 hg w1 hbox hb; have BP := Aside0.mk hbox; have BL1 := Aside0.mk hb; have G1 := Aside0.mk (show w.heap.size ≤ g1 by rw [hg]; exact Nat.le_refl _); have hcp0 : w1.cell? ⟨g1, 0, none⟩ = some (.int .i64 ins) := (blk_cell BP.out 0).trans rfl; have hcp1 : w1.cell? ⟨g1, 1, none⟩ = some (.slice A L.length c) := (blk_cell BP.out 1).trans rfl; clear hg hbox hb) | ((with_reducible refine gate_callee (f := 102) rfl ?_); (try (refine gate_guard (by rfl) ?_; dsimp only)); refine goesL_ (some 7) rfl rfl Try.func102 (by kernel_rfl) rfl #[.agg #[.int .i64 ins, .slice A L.length c]] rfl (by (try simp only [List.map_toArray, List.map_cons, List.map_nil]); first | done | rfl) ?_; (with_reducible refine (impl_copyGraph.calls ins A c L ins L _ (Kd.C_below HR.out BL1.out) HC.out HCG.out).mono ?_); rintro e w2 ⟨v2, rfl, hr2, hb2⟩; refine ⟨_, rfl, ?_⟩; obtain ⟨A2, c2, e2⟩ := Kd.R_slice hr2; subst e2; have BL2 := Aside0.mk (below_step BL1.out hb2); have BP2 := Aside0.mk (blk_below BP.out hb2); have HR2 := Aside0.mk (Kd.R_lower hr2 BL1.out.size); clear hr2 hb2 BP hcp0 hcp1 BL1) | ((with_reducible refine gate_dst (N := 8) rfl ?_); go_loud (refine wpList_mkmap (κ := S79) (P := Try.prog) (t := 81) ?_ ?_ 79 3 encAnd wfAnd ?_; rfl; rfl; intro mb w3 hmb HM0 hb3; have HM3 := Aside0.mk HM0; have BL3 := Aside0.mk (below_step BL2.out hb3); have BP3 := Aside0.mk (blk_below BP2.out hb3); have HR3 := Aside0.mk (Kd.R_below HR2.out hb3); have GM := Aside0.mk (show w.heap.size ≤ mb by rw [hmb]; exact BL2.out.size); clear HM0 hb3 hmb BL2 BP2 HR2)) | ((with_reducible refine gate_dst (N := 10) rfl ?_); refine box_event ?hg (N := 10) ?hd (cs := #[.int .i64 ins, .slice A2 L.length c2, .map (some mb)]) (t := 104) ?hr ?_; (case hd => rfl); (case hg => rfl); (case hr => first | (go_simp; done) | (go_simp; rfl)); intro gb hg w4 hbox hb; have BG := Aside0.mk hbox; have BL4 := Aside0.mk (below_step BL3.out hb); have BP4 := Aside0.mk (blk_below BP3.out hb); have HR4 := Aside0.mk (Kd.R_below HR3.out hb); have HM4 := Aside0.mk (HM3.out.below hb HM3.out.lt); have GG := Aside0.mk (show w.heap.size ≤ gb by rw [hg]; exact BL3.out.size); clear BL3 BP3 HR3 HM3; have hcp0 : w4.cell? ⟨g1, 0, none⟩ = some (.int .i64 ins) := (blk_cell BP4.out 0).trans rfl; have hcp1 : w4.cell? ⟨g1, 1, none⟩ = some (.slice A L.length c) := (blk_cell BP4.out 1).trans rfl; clear hg hbox hb))
  clear hcp0 hcp1
  go_loopg [14] L.length (fun kq v14 wr => ∃ i : Nat, v14 = .int .i64 i ∧ Aside0 (i ≤ L.length ∧ kq = L.length - i) ∧ Aside0 (IsMp Try.prog 79 3 encAnd wfAnd wr mb (pm ins L i)) ∧ Aside0 (Kd.R k79 79 wr w.heap.size (fun _ => True) (.slice A2 L.length c2) L) ∧ Aside0 (wr.heap[gb]? = some (.cells #[.int .i64 ins, .slice A2 L.length c2, .map (some mb)] 104 (0, 0))) ∧ Aside0 (wr.heap[g1]? = some (.cells #[.int .i64 ins, .slice A L.length c] 29 (0, 0))) ∧ Aside0 (Below w.heap.size w wr))
  case atStart => exact ⟨0, rfl, ⟨by omega, by omega⟩, HM4, HR4, BG, BP4, BL4⟩
  case round =>
    clear HM4 HR4 BG BP4 BL4
    obtain ⟨i, rfl, hi, HM, HRR, BG, BP, HB⟩ := hrel
    by_cases hlt : i < L.length
    · have hd0 : decide (i < L.length) = true := decide_eq_true hlt
      have hd1 : decide ((i : Int) < (L.length : Int)) = true := decide_eq_true (by omega)
      obtain ⟨ad, e_, hx0, hx1⟩ := at_T79 HR.out (i : Int) (by omega) (by omega)
      cases e_
      replace hx0 := (HB.out.cell (World.block_lt_of_cell? w _ hx0)).trans hx0
      replace hx1 := (HB.out.cell (World.block_lt_of_cell? w _ hx1)).trans hx1
      rw [Int.toNat_natCast] at hx0 hx1
      have hw1 : Aside0 (wrap64 (ins + 1) = ins + 1) := ⟨by have := HN.out; unfold wrap64; omega⟩
      have hw2 : Aside0 (wrap64 (ins + 1 + (i : Int)) = ins + 1 + i) := ⟨by have := HN.out; have := HL.out; unfold wrap64; omega⟩
      have hw3 : Aside0 (wrap64 (2 * (ins + 1 + (i : Int))) = 2 * (ins + 1 + i)) := ⟨by have := HN.out; have := HL.out; unfold wrap64; omega⟩
      have hw4 : wrap64 ((i : Int) + 1) = (i : Int) + 1 := by have := HL.out; unfold wrap64; omega
      have hvf : Aside0 ((Lit.int .i64 (2 * (ins + 1 + (i : Int)))).wf = true) := ⟨WalkArith.wf_i64 (by have := HN.out; have := HL.out; omega)⟩
      have hml : Aside0 ((pm ins L i).length < maxLen) := ⟨by rw [pm_length]; have := HL.out; unfold maxLen; omega⟩
      have hwf := Aside0.mk (HF.out i hlt)
      go_upto_region 5 with (first | ((with_reducible refine gate_dst (N := 5) rfl ?_); refine box_event ?hg (N := 5) ?hd (cs := #[.int .i64 0, .int .i64 0]) (t := 79) ?hr ?_; (case hd => rfl); (case hg => rfl); (case hr => first | (go_simp; done) | (go_simp; rfl)); intro gx hg w5 hbox hb; have BK := Aside0.mk hbox; have BL := Aside0.mk hb; have GK := Aside0.mk (show wr.heap.size ≤ gx by rw [hg]; exact Nat.le_refl _); have hck0 : w5.cell? ⟨gx, 0, none⟩ = some (.int .i64 0) := (blk_cell BK.out 0).trans rfl; have hck1 : w5.cell? ⟨gx, 1, none⟩ = some (.int .i64 0) := (blk_cell BK.out 1).trans rfl; have hfk0 := blk_frozen BK.out 0; have hfk1 := blk_frozen BK.out 1; have hxa := Aside0.mk (BL.out.cell (World.block_lt_of_cell? wr _ hx0) |>.trans hx0); have hxb := Aside0.mk (BL.out.cell (World.block_lt_of_cell? wr _ hx1) |>.trans hx1); clear hx0 hx1; have hx0 := hxa.out; have hx1 := hxb.out; clear hxa hxb; clear hg hbox hb))
      have BW : Aside0 (Below wr.heap.size wr (((w5.setCell ⟨gx, 0, none⟩ (.int .i64 (rd_T79 L (i : Int)).f0)).setCell ⟨gx, 1, none⟩ (.int .i64 (rd_T79 L (i : Int)).f1)).drew)) := ⟨below_drew1 (below_set (below_set BL.out GK.out) GK.out)⟩
      have BK6 : Aside0 ((((w5.setCell ⟨gx, 0, none⟩ (.int .i64 (rd_T79 L (i : Int)).f0)).setCell ⟨gx, 1, none⟩ (.int .i64 (rd_T79 L (i : Int)).f1)).drew).heap[gx]? = some (.cells #[.int .i64 (rd_T79 L (i : Int)).f0, .int .i64 (rd_T79 L (i : Int)).f1] 79 (0, 0))) := ⟨blk_drew (blk_put (cs := #[.int .i64 (rd_T79 L (i : Int)).f0, .int .i64 0]) (blk_put (cs := #[.int .i64 0, .int .i64 0]) BK.out 0 _ rfl) 1 _ rfl)⟩
      have BG6 := Aside0.mk (blk_below BG.out BW.out)
      have BP6 := Aside0.mk (blk_below BP.out BW.out)
      have HM6 := Aside0.mk (HM.out.below BW.out HM.out.lt)
      have HR6 := Aside0.mk (Kd.R_below HRR.out BW.out)
      have HB6 := Aside0.mk (below_step HB.out BW.out)
      clear hck0 hck1 hfk0 hfk1 BK BL HM HRR HB BG BP
      refine start_ (n := 12) (S := fun w' => w'.cell? ⟨gb, 2, none⟩ = some (.map (some mb)) ∧ w'.cell? ⟨gx, 0, none⟩ = some (.int .i64 (rd_T79 L (i : Int)).f0) ∧ w'.cell? ⟨gx, 1, none⟩ = some (.int .i64 (rd_T79 L (i : Int)).f1) ∧ w'.cell? ⟨g1, 0, none⟩ = some (.int .i64 ins)) (ds := [11]) #[false, false, false, false, false, false, false, false, false, false, false, false] (by kernel_rfl) rfl rfl ⟨(blk_cell BG6.out 2).trans rfl, (blk_cell BK6.out 0).trans rfl, (blk_cell BK6.out 1).trans rfl, (blk_cell BP6.out 0).trans rfl⟩ (fun hHeld => ?_)
      generalize ((w5.setCell ⟨gx, 0, none⟩ (.int .i64 (rd_T79 L (i : Int)).f0)).setCell ⟨gx, 1, none⟩ (.int .i64 (rd_T79 L (i : Int)).f1)).drew = w6 at BG6 BK6 BP6 HM6 HR6 HB6 hHeld ⊢
      refine pure_ (i := 0) (N := some 19) (v := ?_) (a' := ?_) #[true, false, false, false, false, false, false, false, false, false, false, false] rfl rfl (by kernel_rfl) (fun _ _ _ h => h) (Or.inl ⟨by rfl, ?_⟩) ?_ ?_
      rotate_left
      · intro w'
        go_simp
        with_reducible rfl
      rotate_left
      · simp only [Act.put, List.setIfInBounds_toArray, List.set_cons_zero, List.set_cons_succ, i64_w, i32_w]
        rfl
      refine pure_ (i := 1) (N := some 20) (v := ?_) (a' := ?_) #[true, true, false, false, false, false, false, false, false, false, false, false] rfl rfl (by kernel_rfl) (fun _ _ _ h => h) (Or.inl ⟨by rfl, ?_⟩) ?_ ?_
      rotate_left
      · intro w'
        go_simp
        with_reducible rfl
      rotate_left
      · simp only [Act.put, List.setIfInBounds_toArray, List.set_cons_zero, List.set_cons_succ, i64_w, i32_w]
        rfl
      refine pure_ (i := 2) (N := some 21) (v := ?_) (a' := ?_) #[true, true, true, false, false, false, false, false, false, false, false, false] rfl rfl (by kernel_rfl) (fun _ _ _ h => h) (Or.inl ⟨by rfl, ?_⟩) ?_ ?_
      rotate_left
      · intro w'
        go_simp
        with_reducible rfl
      rotate_left
      · simp only [Act.put, List.setIfInBounds_toArray, List.set_cons_zero, List.set_cons_succ, i64_w, i32_w]
        rfl
      refine pure_ (i := 5) (N := some 24) (v := ?_) (a' := ?_) #[true, true, true, false, false, true, false, false, false, false, false, false] rfl rfl (by kernel_rfl) (fun _ _ _ h => h) (Or.inl ⟨by rfl, ?_⟩) ?_ ?_
      rotate_left
      · intro w'
        go_simp
        with_reducible rfl
      rotate_left
      · simp only [Act.put, List.setIfInBounds_toArray, List.set_cons_zero, List.set_cons_succ, i64_w, i32_w]
        rfl
      refine pure_ (i := 8) (N := some 27) (v := ?_) (a' := ?_) #[true, true, true, false, false, true, false, false, true, false, false, false] rfl rfl (by kernel_rfl) (fun _ _ _ h => h) (Or.inl ⟨by rfl, ?_⟩) ?_ ?_
      rotate_left
      · intro w'
        go_simp
        with_reducible rfl
      rotate_left
      · simp only [Act.put, List.setIfInBounds_toArray, List.set_cons_zero, List.set_cons_succ, i64_w, i32_w]
        rfl
      refine take_ (i := 3) (N := some 22) (v := ?_) (a' := ?_) #[true, true, true, true, false, true, false, false, true, false, false, false] rfl rfl (by kernel_rfl) (fun _ _ _ h => h) (Or.inl ⟨by rfl, ?_⟩) hHeld ?_ ?_
      rotate_left
      · rintro w' ⟨s0, s1, s2, s3⟩
        go_simp
        with_reducible rfl
      rotate_left
      · simp only [Act.put, List.setIfInBounds_toArray, List.set_cons_zero, List.set_cons_succ, i64_w, i32_w]
        rfl
      refine take_ (i := 4) (N := some 23) (v := ?_) (a' := ?_) #[true, true, true, true, true, true, false, false, true, false, false, false] rfl rfl (by kernel_rfl) (fun _ _ _ h => h) (Or.inl ⟨by rfl, ?_⟩) hHeld ?_ ?_
      rotate_left
      · rintro w' ⟨s0, s1, s2, s3⟩
        go_simp
        with_reducible rfl
      rotate_left
      · simp only [Act.put, List.setIfInBounds_toArray, List.set_cons_zero, List.set_cons_succ, i64_w, i32_w]
        rfl
      refine take_ (i := 6) (N := some 25) (v := ?_) (a' := ?_) #[true, true, true, true, true, true, true, false, true, false, false, false] rfl rfl (by kernel_rfl) (fun _ _ _ h => h) (Or.inl ⟨by rfl, ?_⟩) hHeld ?_ ?_
      rotate_left
      · rintro w' ⟨s0, s1, s2, s3⟩
        go_simp
        with_reducible rfl
      rotate_left
      · simp only [Act.put, List.setIfInBounds_toArray, List.set_cons_zero, List.set_cons_succ, i64_w, i32_w]
        rfl
      refine pure_ (i := 7) (N := some 26) (v := ?_) (a' := ?_) #[true, true, true, true, true, true, true, true, true, false, false, false] rfl rfl (by kernel_rfl) (fun _ _ _ h => h) (Or.inl ⟨by rfl, ?_⟩) ?_ ?_
      rotate_left
      · intro w'
        go_simp
        with_reducible rfl
      rotate_left
      · simp only [Act.put, List.setIfInBounds_toArray, List.set_cons_zero, List.set_cons_succ, i64_w, i32_w]
        rfl
      refine pure_ (i := 9) (N := some 28) (v := ?_) (a' := ?_) #[true, true, true, true, true, true, true, true, true, true, false, false] rfl rfl (by kernel_rfl) (fun _ _ _ h => h) (Or.inl ⟨by rfl, ?_⟩) ?_ ?_
      rotate_left
      · intro w'
        go_simp
        with_reducible rfl
      rotate_left
      · simp only [Act.put, List.setIfInBounds_toArray, List.set_cons_zero, List.set_cons_succ, i64_w, i32_w]
        rfl
      refine pure_ (i := 10) (N := some 29) (v := ?_) (a' := ?_) #[true, true, true, true, true, true, true, true, true, true, true, false] rfl rfl (by kernel_rfl) (fun _ _ _ h => h) (Or.inl ⟨by rfl, ?_⟩) ?_ ?_
      rotate_left
      · intro w'
        go_simp
        with_reducible rfl
      rotate_left
      · simp only [Act.put, List.setIfInBounds_toArray, List.set_cons_zero, List.set_cons_succ, i64_w, i32_w]
        rfl
      refine last_ (i := 11) (N := none) #[true, true, true, true, true, true, true, true, true, true, true, true] rfl rfl (by kernel_rfl) (by decide) (fun K hK => ?_)
      refine mput_step (κ := S79) (P := Try.prog) (t := 81) (k := 79) (e := 3) (m := pm ins L i) (by rfl) rfl (.tmp 22) (.tmp 23) (.tmp 29) rfl andCodec Try.underlying81 Try.underlying3 HM6.out rfl (rd_T79 L (i : Int)) rfl hwf.out (2 * (ins + 1 + (i : Int))) (by first | (show Value.int .i64 (wrap64 (2 * wrap64 (wrap64 (ins + 1) + (i : Int)))) = Value.int .i64 (2 * (ins + 1 + (i : Int))); rw [hw1.out, hw2.out, hw3.out]) | (show Value.int .i64 (wrap64 (2 * wrap64 (wrap64 (wrap64 (ins + 1)) + (i : Int)))) = Value.int .i64 (2 * (ins + 1 + (i : Int))); rw [hw1.out, hw1.out, hw2.out, hw3.out])) hvf.out hml.out ?_
      intro w7 hm7 hg7
      have HM7 := Aside0.mk hm7
      have BG7 := Aside0.mk (blk_grown BG6.out hg7 (fun e => HM6.out.ne BG6.out (Option.some.inj e).symm))
      have BP7 := Aside0.mk (blk_grown BP6.out hg7 (fun e => HM6.out.ne BP6.out (Option.some.inj e).symm))
      have HR7 : Aside0 (Kd.R k79 79 w7 w.heap.size (fun _ => True) (.slice A2 L.length c2) L) := ⟨Kd.R_mono (Kd.R_grown (Kd.R_bound HR6.out) hg7 (fun k hk e => by obtain ⟨_, _, _, q, hq, cells, hc⟩ := hk; exact HM6.out.ne hc (Option.some.inj e).symm)) (fun _ _ => trivial)⟩
      have HB7 := Aside0.mk (pw_below_grown HB6.out (some mb) HB6.out.size hg7 (fun k_ hk_ => by injection hk_ with hk_; subst hk_; exact GM.out))
      clear hm7 hg7
      refine hK.out _ _ ?_
      clear hK K
      refine done_ (by kernel_rfl) ?_

      clear hHeld
      go_wp2
      go_roundg (L.length - (i + 1))
      case measure => have := hi.out; omega
      case rel => exact ⟨i + 1, (by rw [hw4]; rfl), ⟨by have := hi.out; omega, rfl⟩, ⟨by rw [pm_succ]; exact HM7.out⟩, HR7, BG7, BP7, HB7⟩
    · have hd0 : decide (i < L.length) = false := decide_eq_false hlt
      have hd1 : decide ((i : Int) < (L.length : Int)) = false := decide_eq_false (by omega)
      go_wp2
      go_ret
      have hil : i = L.length := by have := hi.out; omega
      subst hil
      exact ⟨gb, rfl, ⟨A2, c2, mb, BG.out, HRR.out, HM.out, GG.out, GM.out⟩, HB.out⟩
def isW (ins : Int) (L : List S79) (x : Int) : Bool := decide (0 ≤ x ∧ x < 2 * (ins + 1 + L.length))
theorem isWire_eq {ins : Int} {L : List S79} (x : Int) (hin : 0 ≤ ins ∧ ins ≤ 1000) (hL : L.length ≤ 3000) : impl_Graph_isWire.f ins L x = some (isW ins L x) := by
  have e1 : impl_Graph_wires.f ins L = some (2 * (ins + 1 + L.length)) := by unfold impl_Graph_wires.f; congr 1; unfold wrap64; omega
  unfold impl_Graph_isWire.f impl_within.f isW
  rw [e1, Option.bind_some, show wrap64 (2 * (ins + 1 + (L.length : Int)) - 1) = 2 * (ins + 1 + (L.length : Int)) - 1 from by unfold wrap64; omega]
  by_cases h : x ≥ 0
  · rw [if_pos h, Option.bind_some]
    congr 1
    exact decide_eq_decide.2 (by omega)
  · rw [if_neg h, Option.bind_some]
    congr 1
    exact (decide_eq_false (by omega)).symm
def grownR (ins : Int) (L : List S79) (ws : List Int) (F : List S79 × Int) : List S79 × Int :=
  if GOk ins L ∧ (∀ i : Nat, i < ws.length → isW ins L (rd ws (i : Int)) = true) then (if F.2 < 0 then (L, -1) else F) else (L, -1)
theorem GOk.wf {ins : Int} {L : List S79} (h : GOk ins L) (i : Nat) (hi : i < L.length) : wfAnd (rd_T79 L (i : Int)) := by
  obtain ⟨h1, h2, h3⟩ := h
  obtain ⟨a, b, _, d, _⟩ := h3 i hi
  exact ⟨WalkArith.wf_i64 (by omega), WalkArith.wf_i64 (by omega)⟩
theorem IsBx.ne {w : World} {base g k : Nat} {ins : Int} {L : List S79} (h : IsBx w base g ins L) (hk : base > k) : k ≠ g := by
  obtain ⟨A, c, mb, h⟩ := h
  have := h.geg
  omega
set_option maxHeartbeats 8000000 in
set_option maxRecDepth 100000 in
theorem grown.calls (ins : Int) (A : Option Addr) (c : Nat) (L : List S79) (A1 : Option Addr) (c1 : Nat) (ws : List Int) (cf : Nat) (q : Array Value) (F : List S79 × Int) (w : World) (hr : Kd.C k79 w A L.length L) (hc : L.length ≤ c) (hL : L.length ≤ 1099511627776)
    (hr1 : Kd.C (Kd.int .i64) w A1 ws.length ws) (hc1 : ws.length ≤ c1) (hf : Enterable Try.prog cf)
    (hp : GOk ins L → (∀ i : Nat, i < ws.length → isW ins L (rd ws (i : Int)) = true) → ∀ W g w0, Below w.heap.size w W → IsBx W w0.heap.size g ins L → Below w0.heap.size w0 W → Calls Try.prog cf (#[.pointer (some ⟨g, 0, none⟩)] ++ q) W fun e W' => e = .returned (.int .i64 F.2) ∧ IsBx W' w0.heap.size g ins F.1 ∧ Below w0.heap.size w0 W' ∧ Fr g W W') :
    Calls Try.prog 72 #[.agg #[.int .i64 ins, .slice A L.length c], .slice A1 ws.length c1, .func (.func cf) #[] q] w fun e w' => ∃ v1_ : Value, e = .returned (.tuple #[.agg #[.int .i64 ins, v1_], .int .i64 (grownR ins L ws F).2]) ∧ Kd.R k79 79 w' w.heap.size (fun _ => True) v1_ (grownR ins L ws F).1 ∧ Below w.heap.size w w' := by
  obtain ⟨F1, F2⟩ := F
  have HR := Aside0.mk hr
  have HC := Aside0.mk hc
  have HR1 := Aside0.mk hr1
  have HC1 := Aside0.mk hc1
  have HP := Aside0.mk hp
  have HCG : Aside0 (impl_copyGraph.f ins L = some (ins, L)) := ⟨by unfold impl_copyGraph.f; rw [if_pos (by simp; omega)]; rfl⟩
  clear hr hc hr1 hc1 hp
  have hE : grownR ins L ws (F1, F2) = grownR ins L ws (F1, F2) := rfl
  conv at hE => rhs; unfold grownR
  dsimp only at hE
  generalize grownR ins L ws (F1, F2) = r at hE ⊢
  by_cases hg : GOk ins L
  · have HG := Aside0.mk hg
    have HN := Aside0.mk (show 0 ≤ ins ∧ ins ≤ 1000 by have := hg.1; omega)
    have HL := Aside0.mk hg.2.1
    have HWF := Aside0.mk (GOk.wf hg)
    have HOK : Aside0 (impl_GraphOk.f ins L = some true) := ⟨by unfold impl_GraphOk.f; rw [decide_eq_true hg]⟩
    have HE := Aside0.mk hE
    clear hE hg hL
    go_enter Try.func72, Try.ntmps72
    go_wp2_with (first | ((with_reducible refine gate_dst (N := 3) rfl ?_); refine box_event ?hg (N := 3) ?hd (cs := #[.int .i64 ins, .slice A L.length c]) (t := 29) ?hr ?_; (case hd => rfl); (case hg => rfl); (case hr => first | (go_simp; done) | (go_simp; rfl)); intro g1 hg w1 hbox hb; have BPa := Aside0.mk hbox; have HBa := Aside0.mk hb; have hcp0 : w1.cell? ⟨g1, 0, none⟩ = some (.int .i64 ins) := (blk_cell BPa.out 0).trans rfl; have hcp1 : w1.cell? ⟨g1, 1, none⟩ = some (.slice A L.length c) := (blk_cell BPa.out 1).trans rfl; clear hg hbox hb) | ((with_reducible refine gate_dst (N := 6) rfl ?_); refine box_event ?hg (N := 6) ?hd (cs := #[.int .i64 0, .slice none 0 0]) (t := 29) ?hr ?_; (case hd => rfl); (case hg => rfl); (case hr => first | (go_simp; done) | (go_simp; rfl)); intro g6 hg w2 hbox hb; have B6b := Aside0.mk hbox; have HBb := Aside0.mk (below_step HBa.out hb); have BPb := Aside0.mk (blk_below BPa.out hb); have G6 := Aside0.mk (show w.heap.size ≤ g6 by rw [hg]; exact HBa.out.size); have N16 := Aside0.mk (show g1 ≠ g6 by rw [hg]; exact Nat.ne_of_lt (blk_lt BPa.out)); clear hcp0 hcp1 BPa HBa; have hcp0 : w2.cell? ⟨g1, 0, none⟩ = some (.int .i64 ins) := (blk_cell BPb.out 0).trans rfl; have hcp1 : w2.cell? ⟨g1, 1, none⟩ = some (.slice A L.length c) := (blk_cell BPb.out 1).trans rfl; have hcr0 : w2.cell? ⟨g6, 0, none⟩ = some (.int .i64 0) := (blk_cell B6b.out 0).trans rfl; have hcr1 : w2.cell? ⟨g6, 1, none⟩ = some (.slice none 0 0) := (blk_cell B6b.out 1).trans rfl; have hfr0 := blk_frozen B6b.out 0; have hfr1 := blk_frozen B6b.out 1; clear hg hbox hb) | ((with_reducible refine gate_callee (f := 18) rfl ?_); (try (refine gate_guard (by rfl) ?_; dsimp only)); refine goesL_ (some 13) rfl rfl Try.func18 (by kernel_rfl) rfl #[.agg #[.int .i64 ins, .slice A L.length c]] rfl (by (try simp only [List.map_toArray, List.map_cons, List.map_nil]); first | done | rfl) ?_; (with_reducible refine (impl_GraphOk.calls ins A c L true _ (Kd.C_below HR.out HBb.out) HC.out HOK.out).mono ?_); rintro e w3 ⟨rfl, hb⟩; refine ⟨_, rfl, ?_⟩; have HBc := Aside0.mk (below_step HBb.out hb); have BPc := Aside0.mk (blk_below BPb.out hb); have B6c := Aside0.mk (blk_below B6b.out hb); clear hcp0 hcp1 hcr0 hcr1 hfr0 hfr1; clear HBb BPb B6b; have hcp0 : w3.cell? ⟨g1, 0, none⟩ = some (.int .i64 ins) := (blk_cell BPc.out 0).trans rfl; have hcp1 : w3.cell? ⟨g1, 1, none⟩ = some (.slice A L.length c) := (blk_cell BPc.out 1).trans rfl; have hcr0 : w3.cell? ⟨g6, 0, none⟩ = some (.int .i64 0) := (blk_cell B6c.out 0).trans rfl; have hcr1 : w3.cell? ⟨g6, 1, none⟩ = some (.slice none 0 0) := (blk_cell B6c.out 1).trans rfl; have hfr0 := blk_frozen B6c.out 0; have hfr1 := blk_frozen B6c.out 1; clear hb))
    clear hcp0 hcp1 hcr0 hcr1 hfr0 hfr1
    go_loopg [19] ws.length (fun kq v19 wr => ∃ i : Nat, v19 = .int .i64 i ∧ Aside0 (i ≤ ws.length ∧ kq = ws.length - i) ∧ Aside0 (∀ j : Nat, j < i → isW ins L (rd ws (j : Int)) = true) ∧ Aside0 (wr.heap[g1]? = some (.cells #[.int .i64 ins, .slice A L.length c] 29 (0, 0))) ∧ Aside0 (wr.heap[g6]? = some (.cells #[.int .i64 0, .slice none 0 0] 29 (0, 0))) ∧ Aside0 (Below w.heap.size w wr))
    case atStart => exact ⟨0, rfl, ⟨by omega, by omega⟩, ⟨fun j hj => by omega⟩, BPc, B6c, HBc⟩
    case round =>
      clear BPc B6c HBc
      obtain ⟨i, rfl, hi, HALL, BPe, B6e, HBe⟩ := hrel
      have hcp0 : wr.cell? ⟨g1, 0, none⟩ = some (.int .i64 ins) := (blk_cell BPe.out 0).trans rfl
      have hcp1 : wr.cell? ⟨g1, 1, none⟩ = some (.slice A L.length c) := (blk_cell BPe.out 1).trans rfl
      have hcr0 : wr.cell? ⟨g6, 0, none⟩ = some (.int .i64 0) := (blk_cell B6e.out 0).trans rfl
      have hcr1 : wr.cell? ⟨g6, 1, none⟩ = some (.slice none 0 0) := (blk_cell B6e.out 1).trans rfl
      have hfr0 := blk_frozen B6e.out 0
      have hfr1 := blk_frozen B6e.out 1
      have hlw := Aside0.mk (Kd.C_max HR1.out)
      by_cases hlt : i < ws.length
      · have hd0 : decide (i < ws.length) = true := decide_eq_true hlt
        have hd1 : decide ((i : Int) < (ws.length : Int)) = true := decide_eq_true (by omega)
        have hw4 : wrap64 ((i : Int) + 1) = (i : Int) + 1 := by have := hlw.out; unfold wrap64; omega
        obtain ⟨ad, e_, hx0⟩ := Kd.at_int HR1.out (i : Int) (by omega) (by omega)
        cases e_
        replace hx0 := (HBe.out.cell (World.block_lt_of_cell? w _ hx0)).trans hx0
        rw [Int.toNat_natCast] at hx0
        obtain ⟨b, hb_⟩ : ∃ b, isW ins L (rd ws (i : Int)) = b := ⟨_, rfl⟩
        have HBB := Aside0.mk hb_
        have HW : Aside0 (impl_Graph_isWire.f ins L (rd ws (i : Int)) = some b) := ⟨by rw [isWire_eq _ HN.out HL.out, hb_]⟩
        clear hb_
        cases b with
        | false =>
          go_wp2_with (first | ((with_reducible refine gate_callee (f := 63) rfl ?_); (try (refine gate_guard (by rfl) ?_; dsimp only)); refine goesL_ (some 25) rfl rfl Try.func63 (by kernel_rfl) rfl #[.agg #[.int .i64 ins, .slice A L.length c], .int .i64 (rd ws (i : Int))] rfl (by (try simp only [List.map_toArray, List.map_cons, List.map_nil]); first | done | rfl) ?_; (with_reducible refine (impl_Graph_isWire.calls ins A c L (rd ws (i : Int)) false _ (Kd.C_below HR.out HBe.out) HC.out HW.out).mono ?_); rintro e w4 ⟨rfl, hb⟩; refine ⟨_, rfl, ?_⟩; have HBd := Aside0.mk (below_step HBe.out hb); have BPd := Aside0.mk (blk_below BPe.out hb); have B6d := Aside0.mk (blk_below B6e.out hb); clear hcp0 hcp1 hcr0 hcr1 hfr0 hfr1; clear HBe BPe B6e; have hcp0 : w4.cell? ⟨g1, 0, none⟩ = some (.int .i64 ins) := (blk_cell BPd.out 0).trans rfl; have hcp1 : w4.cell? ⟨g1, 1, none⟩ = some (.slice A L.length c) := (blk_cell BPd.out 1).trans rfl; have hcr0 : w4.cell? ⟨g6, 0, none⟩ = some (.int .i64 0) := (blk_cell B6d.out 0).trans rfl; have hcr1 : w4.cell? ⟨g6, 1, none⟩ = some (.slice none 0 0) := (blk_cell B6d.out 1).trans rfl; have hfr0 := blk_frozen B6d.out 0; have hfr1 := blk_frozen B6d.out 1; clear hb) | ((with_reducible refine gate_callee (f := 102) rfl ?_); (try (refine gate_guard (by rfl) ?_; dsimp only)); refine goesL_ (some 28) rfl rfl Try.func102 (by kernel_rfl) rfl #[.agg #[.int .i64 ins, .slice A L.length c]] rfl (by (try simp only [List.map_toArray, List.map_cons, List.map_nil]); first | done | rfl) ?_; (with_reducible refine (impl_copyGraph.calls ins A c L ins L _ (Kd.C_below HR.out HBd.out) HC.out HCG.out).mono ?_); rintro e w8 ⟨v2, rfl, hr2, hb2⟩; refine ⟨_, rfl, ?_⟩; obtain ⟨A2, c2, e2⟩ := Kd.R_slice hr2; subst e2; have HRv := Aside0.mk (Kd.R_lower hr2 HBd.out.size); have HBz := Aside0.mk (below_step HBd.out hb2); have BPz := Aside0.mk (blk_below BPd.out hb2); have B6z := Aside0.mk (blk_below B6d.out hb2); clear hcp0 hcp1 hcr0 hcr1 hfr0 hfr1; clear HBd BPd B6d; have hcp0 : w8.cell? ⟨g1, 0, none⟩ = some (.int .i64 ins) := (blk_cell BPz.out 0).trans rfl; have hcp1 : w8.cell? ⟨g1, 1, none⟩ = some (.slice A L.length c) := (blk_cell BPz.out 1).trans rfl; have hcr0 : w8.cell? ⟨g6, 0, none⟩ = some (.int .i64 0) := (blk_cell B6z.out 0).trans rfl; have hcr1 : w8.cell? ⟨g6, 1, none⟩ = some (.slice none 0 0) := (blk_cell B6z.out 1).trans rfl; have hfr0 := blk_frozen B6z.out 0; have hfr1 := blk_frozen B6z.out 1; clear hr2 hb2))
          have hE := HE.out
          rw [if_neg (fun h => by have h1 := h.2 i hlt; rw [HBB.out] at h1; cases h1)] at hE
          subst hE
          have hB1 : Aside0 ((w8.setCell ⟨g6, 0, none⟩ (.int .i64 ins)).heap[g6]? = some (.cells #[.int .i64 ins, .slice none 0 0] 29 (0, 0))) := ⟨blk_put (cs := #[.int .i64 0, .slice none 0 0]) B6z.out 0 _ rfl⟩
          have hB2 : Aside0 (((w8.setCell ⟨g6, 0, none⟩ (.int .i64 ins)).setCell ⟨g6, 1, none⟩ (.slice A2 L.length c2)).heap[g6]? = some (.cells #[.int .i64 ins, .slice A2 L.length c2] 29 (0, 0))) := ⟨blk_put (cs := #[.int .i64 ins, .slice none 0 0]) hB1.out 1 _ rfl⟩
          refine bodyPost_ret (results_ct rfl _ _ g6 29 #[.int .i64 ins, .slice A2 L.length c2] (0, 0) _ rfl hB2.out Try.underlying29 rfl (by kernel_rfl)) rfl ?_
          exact ⟨.slice A2 L.length c2, rfl, Kd.R_set (Kd.R_set HRv.out B6z.out (by decide) 0 _) hB1.out (by decide) 1 _, below_set (below_set HBz.out G6.out) G6.out⟩
        | true =>
          go_wp2_with (first | ((with_reducible refine gate_callee (f := 63) rfl ?_); (try (refine gate_guard (by rfl) ?_; dsimp only)); refine goesL_ (some 25) rfl rfl Try.func63 (by kernel_rfl) rfl #[.agg #[.int .i64 ins, .slice A L.length c], .int .i64 (rd ws (i : Int))] rfl (by (try simp only [List.map_toArray, List.map_cons, List.map_nil]); first | done | rfl) ?_; (with_reducible refine (impl_Graph_isWire.calls ins A c L (rd ws (i : Int)) true _ (Kd.C_below HR.out HBe.out) HC.out HW.out).mono ?_); rintro e w4 ⟨rfl, hb⟩; refine ⟨_, rfl, ?_⟩; have HBd := Aside0.mk (below_step HBe.out hb); have BPd := Aside0.mk (blk_below BPe.out hb); have B6d := Aside0.mk (blk_below B6e.out hb); clear hcp0 hcp1 hcr0 hcr1 hfr0 hfr1; clear HBe BPe B6e; have hcp0 : w4.cell? ⟨g1, 0, none⟩ = some (.int .i64 ins) := (blk_cell BPd.out 0).trans rfl; have hcp1 : w4.cell? ⟨g1, 1, none⟩ = some (.slice A L.length c) := (blk_cell BPd.out 1).trans rfl; have hcr0 : w4.cell? ⟨g6, 0, none⟩ = some (.int .i64 0) := (blk_cell B6d.out 0).trans rfl; have hcr1 : w4.cell? ⟨g6, 1, none⟩ = some (.slice none 0 0) := (blk_cell B6d.out 1).trans rfl; have hfr0 := blk_frozen B6d.out 0; have hfr1 := blk_frozen B6d.out 1; clear hb))
          go_roundg (ws.length - (i + 1))
          case measure => have := hi.out; omega
          case rel => exact ⟨i + 1, (by first | rfl | (rw [hw4]; rfl)), ⟨by have := hi.out; omega, rfl⟩, ⟨fun j hj => by rcases Nat.lt_succ_iff_lt_or_eq.1 hj with h | rfl; exact HALL.out j h; exact HBB.out⟩, BPd, B6d, HBd⟩
      · have hd0 : decide (i < ws.length) = false := decide_eq_false hlt
        have hd1 : decide ((i : Int) < (ws.length : Int)) = false := decide_eq_false (by omega)
        have HA : Aside0 (∀ i : Nat, i < ws.length → isW ins L (rd ws (i : Int)) = true) := ⟨fun j hj => HALL.out j (by have := hi.out; omega)⟩
        by_cases c3 : F2 < 0
        · have hE := HE.out
          rw [if_pos ⟨HG.out, HA.out⟩, if_pos c3] at hE
          subst hE
          have d3 : decide (F2 < 0) = true := decide_eq_true c3
          clear c3
          go_wp2_with (first | ((with_reducible refine gate_callee (f := 85) rfl ?_); (try (refine gate_guard (by rfl) ?_; dsimp only)); refine goesL_ (some 31) rfl rfl Try.func85 (by kernel_rfl) rfl #[.agg #[.int .i64 ins, .slice A L.length c]] rfl (by (try simp only [List.map_toArray, List.map_cons, List.map_nil]); first | done | rfl) ?_; (with_reducible refine (newBuilder.calls ins A c L _ (Kd.C_below HR.out HBe.out) HC.out HN.out HL.out HWF.out).mono ?_); rintro e w5 ⟨g, rfl, hI, hb⟩; refine ⟨_, rfl, ?_⟩; have HBf := Aside0.mk (below_step HBe.out hb); have HI := Aside0.mk hI; have HJ := Aside0.mk hb; have GN := Aside0.mk (hI.ne (blk_lt BPe.out)); have GN6 := Aside0.mk (hI.ne (blk_lt B6e.out)); have BPf := Aside0.mk (blk_below BPe.out hb); have B6f := Aside0.mk (blk_below B6e.out hb); clear hcp0 hcp1 hcr0 hcr1 hfr0 hfr1; clear BPe B6e; have hcp0 : w5.cell? ⟨g1, 0, none⟩ = some (.int .i64 ins) := (blk_cell BPf.out 0).trans rfl; have hcp1 : w5.cell? ⟨g1, 1, none⟩ = some (.slice A L.length c) := (blk_cell BPf.out 1).trans rfl; have hcr0 : w5.cell? ⟨g6, 0, none⟩ = some (.int .i64 0) := (blk_cell B6f.out 0).trans rfl; have hcr1 : w5.cell? ⟨g6, 1, none⟩ = some (.slice none 0 0) := (blk_cell B6f.out 1).trans rfl; have hfr0 := blk_frozen B6f.out 0; have hfr1 := blk_frozen B6f.out 1; clear hb hI) | ((with_reducible refine gate_calleeV (q := .tmp 32) rfl ?_); refine goesV_ (some 34) rfl rfl hf (by first | rfl | (go_simp; done)) #[.pointer (some ⟨g, 0, none⟩)] rfl (by (try simp only [List.map_toArray, List.map_cons, List.map_nil]); first | done | rfl) ?_; (with_reducible refine (HP.out HG.out HA.out _ g wr HBf.out HI.out HJ.out).mono ?_); rintro e w9 ⟨rfl, hI9, hB9, hF9⟩; refine ⟨_, rfl, ?_⟩; obtain ⟨A9, c9, mb, hI9⟩ := hI9; have BG9 := Aside0.mk hI9.blk; have HR9 := Aside0.mk (Kd.R_lower hI9.row HBe.out.size); have HBh := Aside0.mk (below_step HBe.out hB9); have BPh := Aside0.mk (hF9 g1 _ 29 GN.out (by decide) BPf.out); have B6h := Aside0.mk (hF9 g6 _ 29 GN6.out (by decide) B6f.out); clear hI9 hB9 hF9; clear hcp0 hcp1 hcr0 hcr1 hfr0 hfr1; have hcp0 : w9.cell? ⟨g1, 0, none⟩ = some (.int .i64 ins) := (blk_cell BPh.out 0).trans rfl; have hcp1 : w9.cell? ⟨g1, 1, none⟩ = some (.slice A L.length c) := (blk_cell BPh.out 1).trans rfl; have hcr0 : w9.cell? ⟨g6, 0, none⟩ = some (.int .i64 0) := (blk_cell B6h.out 0).trans rfl; have hcr1 : w9.cell? ⟨g6, 1, none⟩ = some (.slice none 0 0) := (blk_cell B6h.out 1).trans rfl; have hfr0 := blk_frozen B6h.out 0; have hfr1 := blk_frozen B6h.out 1; have hcg0 : w9.cell? ⟨g, 0, none⟩ = some (.int .i64 ins) := (blk_cell BG9.out 0).trans rfl; have hcg1 : w9.cell? ⟨g, 1, none⟩ = some (.slice A9 F1.length c9) := (blk_cell BG9.out 1).trans rfl) | ((with_reducible refine gate_callee (f := 102) rfl ?_); (try (refine gate_guard (by rfl) ?_; dsimp only)); refine goesL_ (some 38) rfl rfl Try.func102 (by kernel_rfl) rfl #[.agg #[.int .i64 ins, .slice A L.length c]] rfl (by (try simp only [List.map_toArray, List.map_cons, List.map_nil]); first | done | rfl) ?_; (with_reducible refine (impl_copyGraph.calls ins A c L ins L _ (Kd.C_below HR.out HBh.out) HC.out HCG.out).mono ?_); rintro e w8 ⟨v2, rfl, hr2, hb2⟩; refine ⟨_, rfl, ?_⟩; obtain ⟨A2, c2, e2⟩ := Kd.R_slice hr2; subst e2; have HRv := Aside0.mk (Kd.R_lower hr2 HBh.out.size); have HBz := Aside0.mk (below_step HBh.out hb2); have BPz := Aside0.mk (blk_below BPh.out hb2); have B6z := Aside0.mk (blk_below B6h.out hb2); clear hcp0 hcp1 hcr0 hcr1 hfr0 hfr1; clear HBh BPh B6h; have hcp0 : w8.cell? ⟨g1, 0, none⟩ = some (.int .i64 ins) := (blk_cell BPz.out 0).trans rfl; have hcp1 : w8.cell? ⟨g1, 1, none⟩ = some (.slice A L.length c) := (blk_cell BPz.out 1).trans rfl; have hcr0 : w8.cell? ⟨g6, 0, none⟩ = some (.int .i64 0) := (blk_cell B6z.out 0).trans rfl; have hcr1 : w8.cell? ⟨g6, 1, none⟩ = some (.slice none 0 0) := (blk_cell B6z.out 1).trans rfl; have hfr0 := blk_frozen B6z.out 0; have hfr1 := blk_frozen B6z.out 1; clear hr2 hb2))
          have hB1 : Aside0 ((w8.setCell ⟨g6, 0, none⟩ (.int .i64 ins)).heap[g6]? = some (.cells #[.int .i64 ins, .slice none 0 0] 29 (0, 0))) := ⟨blk_put (cs := #[.int .i64 0, .slice none 0 0]) B6z.out 0 _ rfl⟩
          have hB2 : Aside0 (((w8.setCell ⟨g6, 0, none⟩ (.int .i64 ins)).setCell ⟨g6, 1, none⟩ (.slice A2 L.length c2)).heap[g6]? = some (.cells #[.int .i64 ins, .slice A2 L.length c2] 29 (0, 0))) := ⟨blk_put (cs := #[.int .i64 ins, .slice none 0 0]) hB1.out 1 _ rfl⟩
          refine bodyPost_ret (results_ct rfl _ _ g6 29 #[.int .i64 ins, .slice A2 L.length c2] (0, 0) _ rfl hB2.out Try.underlying29 rfl (by kernel_rfl)) rfl ?_
          exact ⟨.slice A2 L.length c2, rfl, Kd.R_set (Kd.R_set HRv.out B6z.out (by decide) 0 _) hB1.out (by decide) 1 _, below_set (below_set HBz.out G6.out) G6.out⟩
        · have hE := HE.out
          rw [if_pos ⟨HG.out, HA.out⟩, if_neg c3] at hE
          subst hE
          have d3 : decide (F2 < 0) = false := decide_eq_false c3
          clear c3
          go_wp2_with (first | ((with_reducible refine gate_callee (f := 85) rfl ?_); (try (refine gate_guard (by rfl) ?_; dsimp only)); refine goesL_ (some 31) rfl rfl Try.func85 (by kernel_rfl) rfl #[.agg #[.int .i64 ins, .slice A L.length c]] rfl (by (try simp only [List.map_toArray, List.map_cons, List.map_nil]); first | done | rfl) ?_; (with_reducible refine (newBuilder.calls ins A c L _ (Kd.C_below HR.out HBe.out) HC.out HN.out HL.out HWF.out).mono ?_); rintro e w5 ⟨g, rfl, hI, hb⟩; refine ⟨_, rfl, ?_⟩; have HBf := Aside0.mk (below_step HBe.out hb); have HI := Aside0.mk hI; have HJ := Aside0.mk hb; have GN := Aside0.mk (hI.ne (blk_lt BPe.out)); have GN6 := Aside0.mk (hI.ne (blk_lt B6e.out)); have BPf := Aside0.mk (blk_below BPe.out hb); have B6f := Aside0.mk (blk_below B6e.out hb); clear hcp0 hcp1 hcr0 hcr1 hfr0 hfr1; clear BPe B6e; have hcp0 : w5.cell? ⟨g1, 0, none⟩ = some (.int .i64 ins) := (blk_cell BPf.out 0).trans rfl; have hcp1 : w5.cell? ⟨g1, 1, none⟩ = some (.slice A L.length c) := (blk_cell BPf.out 1).trans rfl; have hcr0 : w5.cell? ⟨g6, 0, none⟩ = some (.int .i64 0) := (blk_cell B6f.out 0).trans rfl; have hcr1 : w5.cell? ⟨g6, 1, none⟩ = some (.slice none 0 0) := (blk_cell B6f.out 1).trans rfl; have hfr0 := blk_frozen B6f.out 0; have hfr1 := blk_frozen B6f.out 1; clear hb hI) | ((with_reducible refine gate_calleeV (q := .tmp 32) rfl ?_); refine goesV_ (some 34) rfl rfl hf (by first | rfl | (go_simp; done)) #[.pointer (some ⟨g, 0, none⟩)] rfl (by (try simp only [List.map_toArray, List.map_cons, List.map_nil]); first | done | rfl) ?_; (with_reducible refine (HP.out HG.out HA.out _ g wr HBf.out HI.out HJ.out).mono ?_); rintro e w9 ⟨rfl, hI9, hB9, hF9⟩; refine ⟨_, rfl, ?_⟩; obtain ⟨A9, c9, mb, hI9⟩ := hI9; have BG9 := Aside0.mk hI9.blk; have HR9 := Aside0.mk (Kd.R_lower hI9.row HBe.out.size); have HBh := Aside0.mk (below_step HBe.out hB9); have BPh := Aside0.mk (hF9 g1 _ 29 GN.out (by decide) BPf.out); have B6h := Aside0.mk (hF9 g6 _ 29 GN6.out (by decide) B6f.out); clear hI9 hB9 hF9; clear hcp0 hcp1 hcr0 hcr1 hfr0 hfr1; have hcp0 : w9.cell? ⟨g1, 0, none⟩ = some (.int .i64 ins) := (blk_cell BPh.out 0).trans rfl; have hcp1 : w9.cell? ⟨g1, 1, none⟩ = some (.slice A L.length c) := (blk_cell BPh.out 1).trans rfl; have hcr0 : w9.cell? ⟨g6, 0, none⟩ = some (.int .i64 0) := (blk_cell B6h.out 0).trans rfl; have hcr1 : w9.cell? ⟨g6, 1, none⟩ = some (.slice none 0 0) := (blk_cell B6h.out 1).trans rfl; have hfr0 := blk_frozen B6h.out 0; have hfr1 := blk_frozen B6h.out 1; have hcg0 : w9.cell? ⟨g, 0, none⟩ = some (.int .i64 ins) := (blk_cell BG9.out 0).trans rfl; have hcg1 : w9.cell? ⟨g, 1, none⟩ = some (.slice A9 F1.length c9) := (blk_cell BG9.out 1).trans rfl))
          have hB1 : Aside0 ((w9.setCell ⟨g6, 0, none⟩ (.int .i64 ins)).heap[g6]? = some (.cells #[.int .i64 ins, .slice none 0 0] 29 (0, 0))) := ⟨blk_put (cs := #[.int .i64 0, .slice none 0 0]) B6h.out 0 _ rfl⟩
          have hB2 : Aside0 (((w9.setCell ⟨g6, 0, none⟩ (.int .i64 ins)).setCell ⟨g6, 1, none⟩ (.slice A9 F1.length c9)).heap[g6]? = some (.cells #[.int .i64 ins, .slice A9 F1.length c9] 29 (0, 0))) := ⟨blk_put (cs := #[.int .i64 ins, .slice none 0 0]) hB1.out 1 _ rfl⟩
          refine bodyPost_ret (results_ct rfl _ _ g6 29 #[.int .i64 ins, .slice A9 F1.length c9] (0, 0) _ rfl hB2.out Try.underlying29 rfl (by kernel_rfl)) rfl ?_
          exact ⟨.slice A9 F1.length c9, rfl, Kd.R_set (Kd.R_set HR9.out B6h.out (by decide) 0 _) hB1.out (by decide) 1 _, below_set (below_set HBh.out G6.out) G6.out⟩
  · have HOK : Aside0 (impl_GraphOk.f ins L = some false) := ⟨by unfold impl_GraphOk.f; rw [decide_eq_false hg]⟩
    rw [if_neg (fun h => hg h.1)] at hE
    subst hE
    clear hg
    go_enter Try.func72, Try.ntmps72
    go_wp2_with (first | ((with_reducible refine gate_dst (N := 3) rfl ?_); refine box_event ?hg (N := 3) ?hd (cs := #[.int .i64 ins, .slice A L.length c]) (t := 29) ?hr ?_; (case hd => rfl); (case hg => rfl); (case hr => first | (go_simp; done) | (go_simp; rfl)); intro g1 hg w1 hbox hb; have BPa := Aside0.mk hbox; have HBa := Aside0.mk hb; have hcp0 : w1.cell? ⟨g1, 0, none⟩ = some (.int .i64 ins) := (blk_cell BPa.out 0).trans rfl; have hcp1 : w1.cell? ⟨g1, 1, none⟩ = some (.slice A L.length c) := (blk_cell BPa.out 1).trans rfl; clear hg hbox hb) | ((with_reducible refine gate_dst (N := 6) rfl ?_); refine box_event ?hg (N := 6) ?hd (cs := #[.int .i64 0, .slice none 0 0]) (t := 29) ?hr ?_; (case hd => rfl); (case hg => rfl); (case hr => first | (go_simp; done) | (go_simp; rfl)); intro g6 hg w2 hbox hb; have B6b := Aside0.mk hbox; have HBb := Aside0.mk (below_step HBa.out hb); have BPb := Aside0.mk (blk_below BPa.out hb); have G6 := Aside0.mk (show w.heap.size ≤ g6 by rw [hg]; exact HBa.out.size); have N16 := Aside0.mk (show g1 ≠ g6 by rw [hg]; exact Nat.ne_of_lt (blk_lt BPa.out)); clear hcp0 hcp1 BPa HBa; have hcp0 : w2.cell? ⟨g1, 0, none⟩ = some (.int .i64 ins) := (blk_cell BPb.out 0).trans rfl; have hcp1 : w2.cell? ⟨g1, 1, none⟩ = some (.slice A L.length c) := (blk_cell BPb.out 1).trans rfl; have hcr0 : w2.cell? ⟨g6, 0, none⟩ = some (.int .i64 0) := (blk_cell B6b.out 0).trans rfl; have hcr1 : w2.cell? ⟨g6, 1, none⟩ = some (.slice none 0 0) := (blk_cell B6b.out 1).trans rfl; have hfr0 := blk_frozen B6b.out 0; have hfr1 := blk_frozen B6b.out 1; clear hg hbox hb) | ((with_reducible refine gate_callee (f := 18) rfl ?_); (try (refine gate_guard (by rfl) ?_; dsimp only)); refine goesL_ (some 13) rfl rfl Try.func18 (by kernel_rfl) rfl #[.agg #[.int .i64 ins, .slice A L.length c]] rfl (by (try simp only [List.map_toArray, List.map_cons, List.map_nil]); first | done | rfl) ?_; (with_reducible refine (impl_GraphOk.calls ins A c L false _ (Kd.C_below HR.out HBb.out) HC.out HOK.out).mono ?_); rintro e w3 ⟨rfl, hb⟩; refine ⟨_, rfl, ?_⟩; have HBc := Aside0.mk (below_step HBb.out hb); have BPc := Aside0.mk (blk_below BPb.out hb); have B6c := Aside0.mk (blk_below B6b.out hb); clear hcp0 hcp1 hcr0 hcr1 hfr0 hfr1; clear HBb BPb B6b; have hcp0 : w3.cell? ⟨g1, 0, none⟩ = some (.int .i64 ins) := (blk_cell BPc.out 0).trans rfl; have hcp1 : w3.cell? ⟨g1, 1, none⟩ = some (.slice A L.length c) := (blk_cell BPc.out 1).trans rfl; have hcr0 : w3.cell? ⟨g6, 0, none⟩ = some (.int .i64 0) := (blk_cell B6c.out 0).trans rfl; have hcr1 : w3.cell? ⟨g6, 1, none⟩ = some (.slice none 0 0) := (blk_cell B6c.out 1).trans rfl; have hfr0 := blk_frozen B6c.out 0; have hfr1 := blk_frozen B6c.out 1; clear hb) | ((with_reducible refine gate_callee (f := 102) rfl ?_); (try (refine gate_guard (by rfl) ?_; dsimp only)); refine goesL_ (some 16) rfl rfl Try.func102 (by kernel_rfl) rfl #[.agg #[.int .i64 ins, .slice A L.length c]] rfl (by (try simp only [List.map_toArray, List.map_cons, List.map_nil]); first | done | rfl) ?_; (with_reducible refine (impl_copyGraph.calls ins A c L ins L _ (Kd.C_below HR.out HBc.out) HC.out HCG.out).mono ?_); rintro e w8 ⟨v2, rfl, hr2, hb2⟩; refine ⟨_, rfl, ?_⟩; obtain ⟨A2, c2, e2⟩ := Kd.R_slice hr2; subst e2; have HRv := Aside0.mk (Kd.R_lower hr2 HBc.out.size); have HBz := Aside0.mk (below_step HBc.out hb2); have BPz := Aside0.mk (blk_below BPc.out hb2); have B6z := Aside0.mk (blk_below B6c.out hb2); clear hcp0 hcp1 hcr0 hcr1 hfr0 hfr1; clear HBc BPc B6c; have hcp0 : w8.cell? ⟨g1, 0, none⟩ = some (.int .i64 ins) := (blk_cell BPz.out 0).trans rfl; have hcp1 : w8.cell? ⟨g1, 1, none⟩ = some (.slice A L.length c) := (blk_cell BPz.out 1).trans rfl; have hcr0 : w8.cell? ⟨g6, 0, none⟩ = some (.int .i64 0) := (blk_cell B6z.out 0).trans rfl; have hcr1 : w8.cell? ⟨g6, 1, none⟩ = some (.slice none 0 0) := (blk_cell B6z.out 1).trans rfl; have hfr0 := blk_frozen B6z.out 0; have hfr1 := blk_frozen B6z.out 1; clear hr2 hb2))
    have hB1 : Aside0 ((w8.setCell ⟨g6, 0, none⟩ (.int .i64 ins)).heap[g6]? = some (.cells #[.int .i64 ins, .slice none 0 0] 29 (0, 0))) := ⟨blk_put (cs := #[.int .i64 0, .slice none 0 0]) B6z.out 0 _ rfl⟩
    have hB2 : Aside0 (((w8.setCell ⟨g6, 0, none⟩ (.int .i64 ins)).setCell ⟨g6, 1, none⟩ (.slice A2 L.length c2)).heap[g6]? = some (.cells #[.int .i64 ins, .slice A2 L.length c2] 29 (0, 0))) := ⟨blk_put (cs := #[.int .i64 ins, .slice none 0 0]) hB1.out 1 _ rfl⟩
    refine bodyPost_ret (results_ct rfl _ _ g6 29 #[.int .i64 ins, .slice A2 L.length c2] (0, 0) _ rfl hB2.out Try.underlying29 rfl (by kernel_rfl)) rfl ?_
    exact ⟨.slice A2 L.length c2, rfl, Kd.R_set (Kd.R_set HRv.out B6z.out (by decide) 0 _) hB1.out (by decide) 1 _, below_set (below_set HBz.out G6.out) G6.out⟩
theorem GOk.ins {ins : Int} {L : List S79} (h : GOk ins L) : 0 ≤ ins ∧ ins ≤ 1000 := by
  have := h.1
  omega
theorem GOk.len {ins : Int} {L : List S79} (h : GOk ins L) : L.length ≤ 3000 := h.2.1
theorem isW_bd {ins : Int} {L : List S79} {x : Int} (h : isW ins L x = true) (hin : 0 ≤ ins ∧ ins ≤ 1000) (hL : L.length ≤ 3000) : 0 ≤ x ∧ x ≤ 1048575 := by
  have := of_decide_eq_true h
  omega
theorem IsBx.below {w w1 : World} {base g : Nat} {ins : Int} {L : List S79} (h : IsBx w base g ins L) (hb : Below w.heap.size w w1) : IsBx w1 base g ins L := by
  obtain ⟨A, c, mb, h⟩ := h
  exact ⟨A, c, mb, blk_below h.blk hb, Kd.R_below h.row hb, h.map.below hb h.map.lt, h.geg, h.gem⟩
theorem IsBx.lt {w : World} {base g : Nat} {ins : Int} {L : List S79} (h : IsBx w base g ins L) : g < w.heap.size := by
  obtain ⟨A, c, mb, h⟩ := h
  exact blk_lt h.blk
def wireF : Nat → Int → List S79 → Int → ByteArray → Int → Option (List S79 × Int)
  | 0, _, _, _, _, _ => none
  | k + 1, ins, L, N, s, i => (impl_Table_known.f N s).bind fun kn => if 0 ≤ kn then some (L, kn) else
    (impl_Table_half.f N s 0).bind fun z => (impl_Table_half.f N s 1).bind fun y =>
    if 0 ≤ wrap64 (2 * (wrap64 (i + 1))) ∧ wrap64 (2 * (wrap64 (i + 1))) ≤ 1048575 then (wireF k ins L z.1 z.2 (wrap64 (i + 1))).bind fun a =>
      if a.2 < 0 then some a else if z.2.toList = y.2.toList then some a else
      if a.2 ≤ 1048575 ∧ a.1.length ≤ 3000 then (wireF k ins a.1 y.1 y.2 (wrap64 (i + 1))).bind fun b =>
        if b.2 < 0 then some (b.1, -1) else if b.2 ≤ 1048575 ∧ b.1.length ≤ 3000 then some (pickR ins b.1 (wrap64 (2 * (wrap64 (i + 1)))) b.2 a.2) else none
      else none
    else none
set_option maxHeartbeats 8000000 in
set_option maxRecDepth 100000 in
theorem builder_wire.calls (g : Nat) : ∀ (k : Nat) (w0 : World) (ins : Int) (L : List S79) (N : Int) (s : ByteArray) (i : Int) (r : List S79 × Int) (w : World), IsBx w w0.heap.size g ins L → Below w0.heap.size w0 w → 0 ≤ ins ∧ ins ≤ 1000 → L.length ≤ 3000 → wireF k ins L N s i = some r →
    Calls Try.prog 86 #[.pointer (some ⟨g, 0, none⟩), .agg #[.int .i64 N, .string s], .int .i64 i] w fun e w' => e = .returned (.int .i64 r.2) ∧ IsBx w' w0.heap.size g ins r.1 ∧ Below w0.heap.size w0 w' ∧ Fr g w w' := by
  intro k
  induction k with
  | zero => intro w0 ins L N s i r w _ _ _ _ h; cases h
  | succ k ih =>
    intro w0 ins L N s i r w hI hB hin hL h
    have HI := Aside0.mk hI
    have HB := Aside0.mk hB
    have HN := Aside0.mk hin
    have HL := Aside0.mk hL
    have HGL := Aside0.mk hI.lt
    clear hI hB hin hL
    unfold wireF at h
    obtain ⟨kn, hk, h⟩ := Option.bind_eq_some_iff.1 h
    have HK := Aside0.mk hk
    clear hk
    by_cases c1 : 0 ≤ kn
    · rw [if_pos c1] at h
      obtain rfl := Option.some.inj h
      have dk : decide (0 ≤ kn) = true := decide_eq_true c1
      clear c1 h
      go_enter Try.func86, Try.ntmps86
      go_wp2_with (first | ((with_reducible refine gate_dst (N := 4) rfl ?_); refine box_event ?hg (N := 4) ?hd (cs := #[.int .i64 N, .string s]) (t := 36) ?hr ?_; (case hd => rfl); (case hg => rfl); (case hr => first | (go_simp; done) | (go_simp; rfl)); intro g4 hg w4 hbox hb; have B4 := Aside0.mk hbox; have HX4 := Aside0.mk hb; have hc40 : w4.cell? ⟨g4, 0, none⟩ = some (.int .i64 N) := (blk_cell B4.out 0).trans rfl; have hc41 : w4.cell? ⟨g4, 1, none⟩ = some (.string s) := (blk_cell B4.out 1).trans rfl; clear hg hbox hb) | ((with_reducible refine gate_callee (f := 105) rfl ?_); (try (refine gate_guard (by rfl) ?_; dsimp only)); refine goesL_ (some 13) rfl rfl Try.func105 (by kernel_rfl) rfl #[.agg #[.int .i64 N, .string s]] rfl (by (try simp only [List.map_toArray, List.map_cons, List.map_nil]); first | done | rfl) ?_; (with_reducible refine (impl_Table_known.calls N s kn _ HK.out).mono ?_); rintro e w5 ⟨rfl, hb5⟩; refine ⟨_, rfl, ?_⟩; have B5 := Aside0.mk (blk_below B4.out hb5); have HX5 := Aside0.mk (below_step HX4.out hb5); clear B4 HX4 hc40 hc41 hb5; have B4 := B5; have HX4 := HX5; clear B5 HX5; have hc40 : w5.cell? ⟨g4, 0, none⟩ = some (.int .i64 N) := (blk_cell B4.out 0).trans rfl; have hc41 : w5.cell? ⟨g4, 1, none⟩ = some (.string s) := (blk_cell B4.out 1).trans rfl))
      go_ret
      exact ⟨rfl, HI.out.below HX4.out, below_step HB.out HX4.out, fun k_ cs T _ _ h_ => blk_below h_ HX4.out⟩
    rw [if_neg c1] at h
    have dk : decide (0 ≤ kn) = false := decide_eq_false c1
    clear c1
    obtain ⟨⟨z1, z2⟩, hz, h⟩ := Option.bind_eq_some_iff.1 h
    obtain ⟨⟨y1, y2⟩, hy, h⟩ := Option.bind_eq_some_iff.1 h
    have HZ := Aside0.mk hz
    have HY := Aside0.mk hy
    clear hz hy
    dsimp only at h
    by_cases c2 : 0 ≤ wrap64 (2 * (wrap64 (i + 1))) ∧ wrap64 (2 * (wrap64 (i + 1))) ≤ 1048575
    case neg => rw [if_neg c2] at h; cases h
    rw [if_pos c2] at h
    have HI2 := Aside0.mk c2
    clear c2
    obtain ⟨⟨u1, u2⟩, hu, h⟩ := Option.bind_eq_some_iff.1 h
    have HU := Aside0.mk hu
    have HH := Aside0.mk h
    clear hu h
    go_enter Try.func86, Try.ntmps86
    go_upto_region 4 with (first | ((with_reducible refine gate_dst (N := 4) rfl ?_); refine box_event ?hg (N := 4) ?hd (cs := #[.int .i64 N, .string s]) (t := 36) ?hr ?_; (case hd => rfl); (case hg => rfl); (case hr => first | (go_simp; done) | (go_simp; rfl)); intro g4 hg w4 hbox hb; have B4 := Aside0.mk hbox; have HX4 := Aside0.mk hb; have hc40 : w4.cell? ⟨g4, 0, none⟩ = some (.int .i64 N) := (blk_cell B4.out 0).trans rfl; have hc41 : w4.cell? ⟨g4, 1, none⟩ = some (.string s) := (blk_cell B4.out 1).trans rfl; clear hg hbox hb) | ((with_reducible refine gate_callee (f := 105) rfl ?_); (try (refine gate_guard (by rfl) ?_; dsimp only)); refine goesL_ (some 13) rfl rfl Try.func105 (by kernel_rfl) rfl #[.agg #[.int .i64 N, .string s]] rfl (by (try simp only [List.map_toArray, List.map_cons, List.map_nil]); first | done | rfl) ?_; (with_reducible refine (impl_Table_known.calls N s kn _ HK.out).mono ?_); rintro e w5 ⟨rfl, hb5⟩; refine ⟨_, rfl, ?_⟩; have B5 := Aside0.mk (blk_below B4.out hb5); have HX5 := Aside0.mk (below_step HX4.out hb5); clear B4 HX4 hc40 hc41 hb5; have B4 := B5; have HX4 := HX5; clear B5 HX5; have hc40 : w5.cell? ⟨g4, 0, none⟩ = some (.int .i64 N) := (blk_cell B4.out 0).trans rfl; have hc41 : w5.cell? ⟨g4, 1, none⟩ = some (.string s) := (blk_cell B4.out 1).trans rfl))
    clear hc40 hc41
    replace HX4 := Aside0.mk (below_drew1 HX4.out)
    replace B4 := Aside0.mk (blk_drew B4.out)
    refine start_ (n := 8) (S := fun w' => w'.cell? ⟨g4, 0, none⟩ = some (.int .i64 N) ∧ w'.cell? ⟨g4, 1, none⟩ = some (.string s)) (ds := [6, 7]) #[false, false, false, false, false, false, false, false] (by kernel_rfl) rfl rfl ⟨(blk_cell B4.out 0).trans rfl, (blk_cell B4.out 1).trans rfl⟩ (fun hHeld => ?_)
    generalize w5.drew = W at B4 HX4 hHeld ⊢
    have HX := Aside0.mk (Below.refl W.heap.size W)
    refine take_ (i := 0) (N := some 17) (v := ?_) (a' := ?_) #[true, false, false, false, false, false, false, false] rfl rfl (by kernel_rfl) (fun _ _ _ h => h) (Or.inl ⟨by rfl, ?_⟩) hHeld ?_ ?_
    rotate_left
    · rintro w' ⟨s0, s1⟩
      go_simp
      with_reducible rfl
    rotate_left
    · simp only [Act.put, List.setIfInBounds_toArray, List.set_cons_zero, List.set_cons_succ, i64_w, i32_w]
      rfl
    refine take_ (i := 2) (N := some 19) (v := ?_) (a' := ?_) #[true, false, true, false, false, false, false, false] rfl rfl (by kernel_rfl) (fun _ _ _ h => h) (Or.inl ⟨by rfl, ?_⟩) hHeld ?_ ?_
    rotate_left
    · rintro w' ⟨s0, s1⟩
      go_simp
      with_reducible rfl
    rotate_left
    · simp only [Act.put, List.setIfInBounds_toArray, List.set_cons_zero, List.set_cons_succ, i64_w, i32_w]
      rfl
    refine join_ (σ := Nat × Nat) 2 #[true, true, true, true, true, true, false, false] (fun s_ => [(18, .agg #[.int .i64 z1, .string z2]), (20, .agg #[.int .i64 y1, .string y2]), (8, .pointer (some ⟨s_.1, 0, none⟩)), (9, .pointer (some ⟨s_.2, 0, none⟩))]) (fun s_ w' => w'.heap[g4]? = some (.cells #[.int .i64 N, .string s] 36 (0, 0)) ∧ w'.heap[s_.1]? = some (.cells #[.int .i64 0, .string (⟨#[]⟩ : ByteArray)] 36 (0, 0)) ∧ w'.heap[s_.2]? = some (.cells #[.int .i64 0, .string (⟨#[]⟩ : ByteArray)] 36 (0, 0)) ∧ s_.1 ≠ s_.2 ∧ W.heap.size ≤ s_.1 ∧ W.heap.size ≤ s_.2 ∧ Below W.heap.size W w') ?_ ?_
    rotate_left
    · intro hCont
      refine three_ (i := 1) (j := 4) (k := 5) (Ni := some 18) (Nj := some 8) (Nk := some 9) #[true, true, true, false, false, false, false, false] #[true, false, true, false, true, false, false, false] #[true, false, true, false, false, true, false, false] rfl rfl rfl rfl rfl rfl (by kernel_rfl) (by decide) (by decide) (by decide) (fun K hK => ?_) (fun K hK => ?_) (fun K hK => ?_)
      · skip
        refine goes_ Try.func106 (by kernel_rfl) rfl #[.agg #[.int .i64 N, .string s], .int .i64 0] (by rfl) rfl rfl (by simp only [List.map_toArray, List.map_cons, List.map_nil]; rfl) ?_
        with_reducible refine (impl_Table_half.calls N s 0 z1 z2 _ HZ.out).mono ?_
        rintro e wq ⟨rfl, hb⟩
        refine ⟨_, rfl, ?_⟩
        have n0_ := Aside0.mk (below_step HX.out hb)
        clear HX
        have HX := n0_
        clear n0_
        have n0_ := Aside0.mk (blk_below B4.out hb)
        clear B4
        have B4 := n0_
        clear n0_
        clear hb
        refine hK.out _ _ ⟨(blk_cell B4.out 0).trans rfl, (blk_cell B4.out 1).trans rfl⟩ (fun hHeld => ?_)
        clear hK K
        refine norm_ (a' := ?_) ?_ ?_
        rotate_left
        · show Act.put _ (some 18) _ = _
          simp only [Act.put, List.setIfInBounds_toArray, List.set_cons_zero, List.set_cons_succ, i64_w, i32_w]
          rfl
        refine three_ (i := 3) (j := 4) (k := 5) (Ni := some 20) (Nj := some 8) (Nk := some 9) #[true, true, true, true, false, false, false, false] #[true, true, true, false, true, false, false, false] #[true, true, true, false, false, true, false, false] rfl rfl rfl rfl rfl rfl (by kernel_rfl) (by decide) (by decide) (by decide) (fun K hK => ?_) (fun K hK => ?_) (fun K hK => ?_)
        · skip
          refine goes_ Try.func106 (by kernel_rfl) rfl #[.agg #[.int .i64 N, .string s], .int .i64 1] (by rfl) rfl rfl (by simp only [List.map_toArray, List.map_cons, List.map_nil]; rfl) ?_
          with_reducible refine (impl_Table_half.calls N s 1 y1 y2 _ HY.out).mono ?_
          rintro e wq ⟨rfl, hb⟩
          refine ⟨_, rfl, ?_⟩
          have n0_ := Aside0.mk (below_step HX.out hb)
          clear HX
          have HX := n0_
          clear n0_
          have n0_ := Aside0.mk (blk_below B4.out hb)
          clear B4
          have B4 := n0_
          clear n0_
          clear hb
          refine hK.out _ _ ⟨(blk_cell B4.out 0).trans rfl, (blk_cell B4.out 1).trans rfl⟩ (fun hHeld => ?_)
          clear hK K
          refine norm_ (a' := ?_) ?_ ?_
          rotate_left
          · show Act.put _ (some 20) _ = _
            simp only [Act.put, List.setIfInBounds_toArray, List.set_cons_zero, List.set_cons_succ, i64_w, i32_w]
            rfl
          refine two_ (i := 4) (j := 5) (Ni := some 8) (Nj := some 9) #[true, true, true, true, true, false, false, false] #[true, true, true, true, false, true, false, false] rfl rfl rfl rfl (by kernel_rfl) (by decide) (by decide) (fun K hK => ?_) (fun K hK => ?_)
          · skip
            refine box_step ?hg (N := 8) ?hd (cs := #[.int .i64 0, .string (⟨#[]⟩ : ByteArray)]) (t := 36) ?hr ?_; (case hd => rfl); (case hg => rfl); (case hr => first | (go_simp; done) | (go_simp; rfl))
            intro g8 hg wq hbox hb
            have G8 := Aside0.mk (show W.heap.size ≤ g8 by rw [hg]; exact HX.out.size)
            have n0_ := Aside0.mk (below_step HX.out hb)
            clear HX
            have HX := n0_
            clear n0_
            have n0_ := Aside0.mk (blk_below B4.out hb)
            clear B4
            have B4 := n0_
            clear n0_
            have B8 := Aside0.mk hbox
            clear hg hbox hb
            refine hK.out _ _ ⟨(blk_cell B4.out 0).trans rfl, (blk_cell B4.out 1).trans rfl⟩ (fun hHeld => ?_)
            clear hK K
            refine norm_ (a' := ?_) ?_ ?_
            rotate_left
            · show Act.put _ (some 8) _ = _
              simp only [Act.put, List.setIfInBounds_toArray, List.set_cons_zero, List.set_cons_succ, i64_w, i32_w]
              rfl
            refine one_ (i := 5) (N := some 9) #[true, true, true, true, true, true, false, false] rfl rfl (by kernel_rfl) (by decide) (fun K hK => ?_)
            refine box_step ?hg (N := 9) ?hd (cs := #[.int .i64 0, .string (⟨#[]⟩ : ByteArray)]) (t := 36) ?hr ?_; (case hd => rfl); (case hg => rfl); (case hr => first | (go_simp; done) | (go_simp; rfl))
            intro g9 hg wq hbox hb
            have NE : Aside0 (g8 ≠ g9) := ⟨by rw [hg]; exact Nat.ne_of_lt (blk_lt B8.out)⟩
            have G9 := Aside0.mk (show W.heap.size ≤ g9 by rw [hg]; exact HX.out.size)
            have n0_ := Aside0.mk (below_step HX.out hb)
            clear HX
            have HX := n0_
            clear n0_
            have n0_ := Aside0.mk (blk_below B4.out hb)
            clear B4
            have B4 := n0_
            clear n0_
            have n0_ := Aside0.mk (blk_below B8.out hb)
            clear B8
            have B8 := n0_
            clear n0_
            have B9 := Aside0.mk hbox
            clear hg hbox hb
            refine hK.out _ _ ⟨(blk_cell B4.out 0).trans rfl, (blk_cell B4.out 1).trans rfl⟩ (fun hHeld => ?_)
            clear hK K
            refine norm_ (a' := ?_) ?_ ?_
            rotate_left
            · show Act.put _ (some 9) _ = _
              simp only [Act.put, List.setIfInBounds_toArray, List.set_cons_zero, List.set_cons_succ, i64_w, i32_w]
              rfl
            exact norm_ (by simp only [putAll, Act.put, List.setIfInBounds_toArray, List.set_cons_zero, List.set_cons_succ]) (hCont (g8, g9) _ ⟨B4.out, B8.out, B9.out, NE.out, G8.out, G9.out, HX.out⟩)
          · skip
            refine box_step ?hg (N := 9) ?hd (cs := #[.int .i64 0, .string (⟨#[]⟩ : ByteArray)]) (t := 36) ?hr ?_; (case hd => rfl); (case hg => rfl); (case hr => first | (go_simp; done) | (go_simp; rfl))
            intro g9 hg wq hbox hb
            have G9 := Aside0.mk (show W.heap.size ≤ g9 by rw [hg]; exact HX.out.size)
            have n0_ := Aside0.mk (below_step HX.out hb)
            clear HX
            have HX := n0_
            clear n0_
            have n0_ := Aside0.mk (blk_below B4.out hb)
            clear B4
            have B4 := n0_
            clear n0_
            have B9 := Aside0.mk hbox
            clear hg hbox hb
            refine hK.out _ _ ⟨(blk_cell B4.out 0).trans rfl, (blk_cell B4.out 1).trans rfl⟩ (fun hHeld => ?_)
            clear hK K
            refine norm_ (a' := ?_) ?_ ?_
            rotate_left
            · show Act.put _ (some 9) _ = _
              simp only [Act.put, List.setIfInBounds_toArray, List.set_cons_zero, List.set_cons_succ, i64_w, i32_w]
              rfl
            refine one_ (i := 4) (N := some 8) #[true, true, true, true, true, true, false, false] rfl rfl (by kernel_rfl) (by decide) (fun K hK => ?_)
            refine box_step ?hg (N := 8) ?hd (cs := #[.int .i64 0, .string (⟨#[]⟩ : ByteArray)]) (t := 36) ?hr ?_; (case hd => rfl); (case hg => rfl); (case hr => first | (go_simp; done) | (go_simp; rfl))
            intro g8 hg wq hbox hb
            have NE : Aside0 (g8 ≠ g9) := ⟨by rw [hg]; exact Nat.ne_of_gt (blk_lt B9.out)⟩
            have G8 := Aside0.mk (show W.heap.size ≤ g8 by rw [hg]; exact HX.out.size)
            have n0_ := Aside0.mk (below_step HX.out hb)
            clear HX
            have HX := n0_
            clear n0_
            have n0_ := Aside0.mk (blk_below B4.out hb)
            clear B4
            have B4 := n0_
            clear n0_
            have n0_ := Aside0.mk (blk_below B9.out hb)
            clear B9
            have B9 := n0_
            clear n0_
            have B8 := Aside0.mk hbox
            clear hg hbox hb
            refine hK.out _ _ ⟨(blk_cell B4.out 0).trans rfl, (blk_cell B4.out 1).trans rfl⟩ (fun hHeld => ?_)
            clear hK K
            refine norm_ (a' := ?_) ?_ ?_
            rotate_left
            · show Act.put _ (some 8) _ = _
              simp only [Act.put, List.setIfInBounds_toArray, List.set_cons_zero, List.set_cons_succ, i64_w, i32_w]
              rfl
            exact norm_ (by simp only [putAll, Act.put, List.setIfInBounds_toArray, List.set_cons_zero, List.set_cons_succ]) (hCont (g8, g9) _ ⟨B4.out, B8.out, B9.out, NE.out, G8.out, G9.out, HX.out⟩)
        · skip
          refine box_step ?hg (N := 8) ?hd (cs := #[.int .i64 0, .string (⟨#[]⟩ : ByteArray)]) (t := 36) ?hr ?_; (case hd => rfl); (case hg => rfl); (case hr => first | (go_simp; done) | (go_simp; rfl))
          intro g8 hg wq hbox hb
          have G8 := Aside0.mk (show W.heap.size ≤ g8 by rw [hg]; exact HX.out.size)
          have n0_ := Aside0.mk (below_step HX.out hb)
          clear HX
          have HX := n0_
          clear n0_
          have n0_ := Aside0.mk (blk_below B4.out hb)
          clear B4
          have B4 := n0_
          clear n0_
          have B8 := Aside0.mk hbox
          clear hg hbox hb
          refine hK.out _ _ ⟨(blk_cell B4.out 0).trans rfl, (blk_cell B4.out 1).trans rfl⟩ (fun hHeld => ?_)
          clear hK K
          refine norm_ (a' := ?_) ?_ ?_
          rotate_left
          · show Act.put _ (some 8) _ = _
            simp only [Act.put, List.setIfInBounds_toArray, List.set_cons_zero, List.set_cons_succ, i64_w, i32_w]
            rfl
          refine two_ (i := 3) (j := 5) (Ni := some 20) (Nj := some 9) #[true, true, true, true, true, false, false, false] #[true, true, true, false, true, true, false, false] rfl rfl rfl rfl (by kernel_rfl) (by decide) (by decide) (fun K hK => ?_) (fun K hK => ?_)
          · skip
            refine goes_ Try.func106 (by kernel_rfl) rfl #[.agg #[.int .i64 N, .string s], .int .i64 1] (by rfl) rfl rfl (by simp only [List.map_toArray, List.map_cons, List.map_nil]; rfl) ?_
            with_reducible refine (impl_Table_half.calls N s 1 y1 y2 _ HY.out).mono ?_
            rintro e wq ⟨rfl, hb⟩
            refine ⟨_, rfl, ?_⟩
            have n0_ := Aside0.mk (below_step HX.out hb)
            clear HX
            have HX := n0_
            clear n0_
            have n0_ := Aside0.mk (blk_below B4.out hb)
            clear B4
            have B4 := n0_
            clear n0_
            have n0_ := Aside0.mk (blk_below B8.out hb)
            clear B8
            have B8 := n0_
            clear n0_
            clear hb
            refine hK.out _ _ ⟨(blk_cell B4.out 0).trans rfl, (blk_cell B4.out 1).trans rfl⟩ (fun hHeld => ?_)
            clear hK K
            refine norm_ (a' := ?_) ?_ ?_
            rotate_left
            · show Act.put _ (some 20) _ = _
              simp only [Act.put, List.setIfInBounds_toArray, List.set_cons_zero, List.set_cons_succ, i64_w, i32_w]
              rfl
            refine one_ (i := 5) (N := some 9) #[true, true, true, true, true, true, false, false] rfl rfl (by kernel_rfl) (by decide) (fun K hK => ?_)
            refine box_step ?hg (N := 9) ?hd (cs := #[.int .i64 0, .string (⟨#[]⟩ : ByteArray)]) (t := 36) ?hr ?_; (case hd => rfl); (case hg => rfl); (case hr => first | (go_simp; done) | (go_simp; rfl))
            intro g9 hg wq hbox hb
            have NE : Aside0 (g8 ≠ g9) := ⟨by rw [hg]; exact Nat.ne_of_lt (blk_lt B8.out)⟩
            have G9 := Aside0.mk (show W.heap.size ≤ g9 by rw [hg]; exact HX.out.size)
            have n0_ := Aside0.mk (below_step HX.out hb)
            clear HX
            have HX := n0_
            clear n0_
            have n0_ := Aside0.mk (blk_below B4.out hb)
            clear B4
            have B4 := n0_
            clear n0_
            have n0_ := Aside0.mk (blk_below B8.out hb)
            clear B8
            have B8 := n0_
            clear n0_
            have B9 := Aside0.mk hbox
            clear hg hbox hb
            refine hK.out _ _ ⟨(blk_cell B4.out 0).trans rfl, (blk_cell B4.out 1).trans rfl⟩ (fun hHeld => ?_)
            clear hK K
            refine norm_ (a' := ?_) ?_ ?_
            rotate_left
            · show Act.put _ (some 9) _ = _
              simp only [Act.put, List.setIfInBounds_toArray, List.set_cons_zero, List.set_cons_succ, i64_w, i32_w]
              rfl
            exact norm_ (by simp only [putAll, Act.put, List.setIfInBounds_toArray, List.set_cons_zero, List.set_cons_succ]) (hCont (g8, g9) _ ⟨B4.out, B8.out, B9.out, NE.out, G8.out, G9.out, HX.out⟩)
          · skip
            refine box_step ?hg (N := 9) ?hd (cs := #[.int .i64 0, .string (⟨#[]⟩ : ByteArray)]) (t := 36) ?hr ?_; (case hd => rfl); (case hg => rfl); (case hr => first | (go_simp; done) | (go_simp; rfl))
            intro g9 hg wq hbox hb
            have NE : Aside0 (g8 ≠ g9) := ⟨by rw [hg]; exact Nat.ne_of_lt (blk_lt B8.out)⟩
            have G9 := Aside0.mk (show W.heap.size ≤ g9 by rw [hg]; exact HX.out.size)
            have n0_ := Aside0.mk (below_step HX.out hb)
            clear HX
            have HX := n0_
            clear n0_
            have n0_ := Aside0.mk (blk_below B4.out hb)
            clear B4
            have B4 := n0_
            clear n0_
            have n0_ := Aside0.mk (blk_below B8.out hb)
            clear B8
            have B8 := n0_
            clear n0_
            have B9 := Aside0.mk hbox
            clear hg hbox hb
            refine hK.out _ _ ⟨(blk_cell B4.out 0).trans rfl, (blk_cell B4.out 1).trans rfl⟩ (fun hHeld => ?_)
            clear hK K
            refine norm_ (a' := ?_) ?_ ?_
            rotate_left
            · show Act.put _ (some 9) _ = _
              simp only [Act.put, List.setIfInBounds_toArray, List.set_cons_zero, List.set_cons_succ, i64_w, i32_w]
              rfl
            refine one_ (i := 3) (N := some 20) #[true, true, true, true, true, true, false, false] rfl rfl (by kernel_rfl) (by decide) (fun K hK => ?_)
            refine goes_ Try.func106 (by kernel_rfl) rfl #[.agg #[.int .i64 N, .string s], .int .i64 1] (by rfl) rfl rfl (by simp only [List.map_toArray, List.map_cons, List.map_nil]; rfl) ?_
            with_reducible refine (impl_Table_half.calls N s 1 y1 y2 _ HY.out).mono ?_
            rintro e wq ⟨rfl, hb⟩
            refine ⟨_, rfl, ?_⟩
            have n0_ := Aside0.mk (below_step HX.out hb)
            clear HX
            have HX := n0_
            clear n0_
            have n0_ := Aside0.mk (blk_below B4.out hb)
            clear B4
            have B4 := n0_
            clear n0_
            have n0_ := Aside0.mk (blk_below B8.out hb)
            clear B8
            have B8 := n0_
            clear n0_
            have n0_ := Aside0.mk (blk_below B9.out hb)
            clear B9
            have B9 := n0_
            clear n0_
            clear hb
            refine hK.out _ _ ⟨(blk_cell B4.out 0).trans rfl, (blk_cell B4.out 1).trans rfl⟩ (fun hHeld => ?_)
            clear hK K
            refine norm_ (a' := ?_) ?_ ?_
            rotate_left
            · show Act.put _ (some 20) _ = _
              simp only [Act.put, List.setIfInBounds_toArray, List.set_cons_zero, List.set_cons_succ, i64_w, i32_w]
              rfl
            exact norm_ (by simp only [putAll, Act.put, List.setIfInBounds_toArray, List.set_cons_zero, List.set_cons_succ]) (hCont (g8, g9) _ ⟨B4.out, B8.out, B9.out, NE.out, G8.out, G9.out, HX.out⟩)
        · skip
          refine box_step ?hg (N := 9) ?hd (cs := #[.int .i64 0, .string (⟨#[]⟩ : ByteArray)]) (t := 36) ?hr ?_; (case hd => rfl); (case hg => rfl); (case hr => first | (go_simp; done) | (go_simp; rfl))
          intro g9 hg wq hbox hb
          have G9 := Aside0.mk (show W.heap.size ≤ g9 by rw [hg]; exact HX.out.size)
          have n0_ := Aside0.mk (below_step HX.out hb)
          clear HX
          have HX := n0_
          clear n0_
          have n0_ := Aside0.mk (blk_below B4.out hb)
          clear B4
          have B4 := n0_
          clear n0_
          have B9 := Aside0.mk hbox
          clear hg hbox hb
          refine hK.out _ _ ⟨(blk_cell B4.out 0).trans rfl, (blk_cell B4.out 1).trans rfl⟩ (fun hHeld => ?_)
          clear hK K
          refine norm_ (a' := ?_) ?_ ?_
          rotate_left
          · show Act.put _ (some 9) _ = _
            simp only [Act.put, List.setIfInBounds_toArray, List.set_cons_zero, List.set_cons_succ, i64_w, i32_w]
            rfl
          refine two_ (i := 3) (j := 4) (Ni := some 20) (Nj := some 8) #[true, true, true, true, false, true, false, false] #[true, true, true, false, true, true, false, false] rfl rfl rfl rfl (by kernel_rfl) (by decide) (by decide) (fun K hK => ?_) (fun K hK => ?_)
          · skip
            refine goes_ Try.func106 (by kernel_rfl) rfl #[.agg #[.int .i64 N, .string s], .int .i64 1] (by rfl) rfl rfl (by simp only [List.map_toArray, List.map_cons, List.map_nil]; rfl) ?_
            with_reducible refine (impl_Table_half.calls N s 1 y1 y2 _ HY.out).mono ?_
            rintro e wq ⟨rfl, hb⟩
            refine ⟨_, rfl, ?_⟩
            have n0_ := Aside0.mk (below_step HX.out hb)
            clear HX
            have HX := n0_
            clear n0_
            have n0_ := Aside0.mk (blk_below B4.out hb)
            clear B4
            have B4 := n0_
            clear n0_
            have n0_ := Aside0.mk (blk_below B9.out hb)
            clear B9
            have B9 := n0_
            clear n0_
            clear hb
            refine hK.out _ _ ⟨(blk_cell B4.out 0).trans rfl, (blk_cell B4.out 1).trans rfl⟩ (fun hHeld => ?_)
            clear hK K
            refine norm_ (a' := ?_) ?_ ?_
            rotate_left
            · show Act.put _ (some 20) _ = _
              simp only [Act.put, List.setIfInBounds_toArray, List.set_cons_zero, List.set_cons_succ, i64_w, i32_w]
              rfl
            refine one_ (i := 4) (N := some 8) #[true, true, true, true, true, true, false, false] rfl rfl (by kernel_rfl) (by decide) (fun K hK => ?_)
            refine box_step ?hg (N := 8) ?hd (cs := #[.int .i64 0, .string (⟨#[]⟩ : ByteArray)]) (t := 36) ?hr ?_; (case hd => rfl); (case hg => rfl); (case hr => first | (go_simp; done) | (go_simp; rfl))
            intro g8 hg wq hbox hb
            have NE : Aside0 (g8 ≠ g9) := ⟨by rw [hg]; exact Nat.ne_of_gt (blk_lt B9.out)⟩
            have G8 := Aside0.mk (show W.heap.size ≤ g8 by rw [hg]; exact HX.out.size)
            have n0_ := Aside0.mk (below_step HX.out hb)
            clear HX
            have HX := n0_
            clear n0_
            have n0_ := Aside0.mk (blk_below B4.out hb)
            clear B4
            have B4 := n0_
            clear n0_
            have n0_ := Aside0.mk (blk_below B9.out hb)
            clear B9
            have B9 := n0_
            clear n0_
            have B8 := Aside0.mk hbox
            clear hg hbox hb
            refine hK.out _ _ ⟨(blk_cell B4.out 0).trans rfl, (blk_cell B4.out 1).trans rfl⟩ (fun hHeld => ?_)
            clear hK K
            refine norm_ (a' := ?_) ?_ ?_
            rotate_left
            · show Act.put _ (some 8) _ = _
              simp only [Act.put, List.setIfInBounds_toArray, List.set_cons_zero, List.set_cons_succ, i64_w, i32_w]
              rfl
            exact norm_ (by simp only [putAll, Act.put, List.setIfInBounds_toArray, List.set_cons_zero, List.set_cons_succ]) (hCont (g8, g9) _ ⟨B4.out, B8.out, B9.out, NE.out, G8.out, G9.out, HX.out⟩)
          · skip
            refine box_step ?hg (N := 8) ?hd (cs := #[.int .i64 0, .string (⟨#[]⟩ : ByteArray)]) (t := 36) ?hr ?_; (case hd => rfl); (case hg => rfl); (case hr => first | (go_simp; done) | (go_simp; rfl))
            intro g8 hg wq hbox hb
            have NE : Aside0 (g8 ≠ g9) := ⟨by rw [hg]; exact Nat.ne_of_gt (blk_lt B9.out)⟩
            have G8 := Aside0.mk (show W.heap.size ≤ g8 by rw [hg]; exact HX.out.size)
            have n0_ := Aside0.mk (below_step HX.out hb)
            clear HX
            have HX := n0_
            clear n0_
            have n0_ := Aside0.mk (blk_below B4.out hb)
            clear B4
            have B4 := n0_
            clear n0_
            have n0_ := Aside0.mk (blk_below B9.out hb)
            clear B9
            have B9 := n0_
            clear n0_
            have B8 := Aside0.mk hbox
            clear hg hbox hb
            refine hK.out _ _ ⟨(blk_cell B4.out 0).trans rfl, (blk_cell B4.out 1).trans rfl⟩ (fun hHeld => ?_)
            clear hK K
            refine norm_ (a' := ?_) ?_ ?_
            rotate_left
            · show Act.put _ (some 8) _ = _
              simp only [Act.put, List.setIfInBounds_toArray, List.set_cons_zero, List.set_cons_succ, i64_w, i32_w]
              rfl
            refine one_ (i := 3) (N := some 20) #[true, true, true, true, true, true, false, false] rfl rfl (by kernel_rfl) (by decide) (fun K hK => ?_)
            refine goes_ Try.func106 (by kernel_rfl) rfl #[.agg #[.int .i64 N, .string s], .int .i64 1] (by rfl) rfl rfl (by simp only [List.map_toArray, List.map_cons, List.map_nil]; rfl) ?_
            with_reducible refine (impl_Table_half.calls N s 1 y1 y2 _ HY.out).mono ?_
            rintro e wq ⟨rfl, hb⟩
            refine ⟨_, rfl, ?_⟩
            have n0_ := Aside0.mk (below_step HX.out hb)
            clear HX
            have HX := n0_
            clear n0_
            have n0_ := Aside0.mk (blk_below B4.out hb)
            clear B4
            have B4 := n0_
            clear n0_
            have n0_ := Aside0.mk (blk_below B8.out hb)
            clear B8
            have B8 := n0_
            clear n0_
            have n0_ := Aside0.mk (blk_below B9.out hb)
            clear B9
            have B9 := n0_
            clear n0_
            clear hb
            refine hK.out _ _ ⟨(blk_cell B4.out 0).trans rfl, (blk_cell B4.out 1).trans rfl⟩ (fun hHeld => ?_)
            clear hK K
            refine norm_ (a' := ?_) ?_ ?_
            rotate_left
            · show Act.put _ (some 20) _ = _
              simp only [Act.put, List.setIfInBounds_toArray, List.set_cons_zero, List.set_cons_succ, i64_w, i32_w]
              rfl
            exact norm_ (by simp only [putAll, Act.put, List.setIfInBounds_toArray, List.set_cons_zero, List.set_cons_succ]) (hCont (g8, g9) _ ⟨B4.out, B8.out, B9.out, NE.out, G8.out, G9.out, HX.out⟩)
      · skip
        refine box_step ?hg (N := 8) ?hd (cs := #[.int .i64 0, .string (⟨#[]⟩ : ByteArray)]) (t := 36) ?hr ?_; (case hd => rfl); (case hg => rfl); (case hr => first | (go_simp; done) | (go_simp; rfl))
        intro g8 hg wq hbox hb
        have G8 := Aside0.mk (show W.heap.size ≤ g8 by rw [hg]; exact HX.out.size)
        have n0_ := Aside0.mk (below_step HX.out hb)
        clear HX
        have HX := n0_
        clear n0_
        have n0_ := Aside0.mk (blk_below B4.out hb)
        clear B4
        have B4 := n0_
        clear n0_
        have B8 := Aside0.mk hbox
        clear hg hbox hb
        refine hK.out _ _ ⟨(blk_cell B4.out 0).trans rfl, (blk_cell B4.out 1).trans rfl⟩ (fun hHeld => ?_)
        clear hK K
        refine norm_ (a' := ?_) ?_ ?_
        rotate_left
        · show Act.put _ (some 8) _ = _
          simp only [Act.put, List.setIfInBounds_toArray, List.set_cons_zero, List.set_cons_succ, i64_w, i32_w]
          rfl
        refine two_ (i := 1) (j := 5) (Ni := some 18) (Nj := some 9) #[true, true, true, false, true, false, false, false] #[true, false, true, false, true, true, false, false] rfl rfl rfl rfl (by kernel_rfl) (by decide) (by decide) (fun K hK => ?_) (fun K hK => ?_)
        · skip
          refine goes_ Try.func106 (by kernel_rfl) rfl #[.agg #[.int .i64 N, .string s], .int .i64 0] (by rfl) rfl rfl (by simp only [List.map_toArray, List.map_cons, List.map_nil]; rfl) ?_
          with_reducible refine (impl_Table_half.calls N s 0 z1 z2 _ HZ.out).mono ?_
          rintro e wq ⟨rfl, hb⟩
          refine ⟨_, rfl, ?_⟩
          have n0_ := Aside0.mk (below_step HX.out hb)
          clear HX
          have HX := n0_
          clear n0_
          have n0_ := Aside0.mk (blk_below B4.out hb)
          clear B4
          have B4 := n0_
          clear n0_
          have n0_ := Aside0.mk (blk_below B8.out hb)
          clear B8
          have B8 := n0_
          clear n0_
          clear hb
          refine hK.out _ _ ⟨(blk_cell B4.out 0).trans rfl, (blk_cell B4.out 1).trans rfl⟩ (fun hHeld => ?_)
          clear hK K
          refine norm_ (a' := ?_) ?_ ?_
          rotate_left
          · show Act.put _ (some 18) _ = _
            simp only [Act.put, List.setIfInBounds_toArray, List.set_cons_zero, List.set_cons_succ, i64_w, i32_w]
            rfl
          refine two_ (i := 3) (j := 5) (Ni := some 20) (Nj := some 9) #[true, true, true, true, true, false, false, false] #[true, true, true, false, true, true, false, false] rfl rfl rfl rfl (by kernel_rfl) (by decide) (by decide) (fun K hK => ?_) (fun K hK => ?_)
          · skip
            refine goes_ Try.func106 (by kernel_rfl) rfl #[.agg #[.int .i64 N, .string s], .int .i64 1] (by rfl) rfl rfl (by simp only [List.map_toArray, List.map_cons, List.map_nil]; rfl) ?_
            with_reducible refine (impl_Table_half.calls N s 1 y1 y2 _ HY.out).mono ?_
            rintro e wq ⟨rfl, hb⟩
            refine ⟨_, rfl, ?_⟩
            have n0_ := Aside0.mk (below_step HX.out hb)
            clear HX
            have HX := n0_
            clear n0_
            have n0_ := Aside0.mk (blk_below B4.out hb)
            clear B4
            have B4 := n0_
            clear n0_
            have n0_ := Aside0.mk (blk_below B8.out hb)
            clear B8
            have B8 := n0_
            clear n0_
            clear hb
            refine hK.out _ _ ⟨(blk_cell B4.out 0).trans rfl, (blk_cell B4.out 1).trans rfl⟩ (fun hHeld => ?_)
            clear hK K
            refine norm_ (a' := ?_) ?_ ?_
            rotate_left
            · show Act.put _ (some 20) _ = _
              simp only [Act.put, List.setIfInBounds_toArray, List.set_cons_zero, List.set_cons_succ, i64_w, i32_w]
              rfl
            refine one_ (i := 5) (N := some 9) #[true, true, true, true, true, true, false, false] rfl rfl (by kernel_rfl) (by decide) (fun K hK => ?_)
            refine box_step ?hg (N := 9) ?hd (cs := #[.int .i64 0, .string (⟨#[]⟩ : ByteArray)]) (t := 36) ?hr ?_; (case hd => rfl); (case hg => rfl); (case hr => first | (go_simp; done) | (go_simp; rfl))
            intro g9 hg wq hbox hb
            have NE : Aside0 (g8 ≠ g9) := ⟨by rw [hg]; exact Nat.ne_of_lt (blk_lt B8.out)⟩
            have G9 := Aside0.mk (show W.heap.size ≤ g9 by rw [hg]; exact HX.out.size)
            have n0_ := Aside0.mk (below_step HX.out hb)
            clear HX
            have HX := n0_
            clear n0_
            have n0_ := Aside0.mk (blk_below B4.out hb)
            clear B4
            have B4 := n0_
            clear n0_
            have n0_ := Aside0.mk (blk_below B8.out hb)
            clear B8
            have B8 := n0_
            clear n0_
            have B9 := Aside0.mk hbox
            clear hg hbox hb
            refine hK.out _ _ ⟨(blk_cell B4.out 0).trans rfl, (blk_cell B4.out 1).trans rfl⟩ (fun hHeld => ?_)
            clear hK K
            refine norm_ (a' := ?_) ?_ ?_
            rotate_left
            · show Act.put _ (some 9) _ = _
              simp only [Act.put, List.setIfInBounds_toArray, List.set_cons_zero, List.set_cons_succ, i64_w, i32_w]
              rfl
            exact norm_ (by simp only [putAll, Act.put, List.setIfInBounds_toArray, List.set_cons_zero, List.set_cons_succ]) (hCont (g8, g9) _ ⟨B4.out, B8.out, B9.out, NE.out, G8.out, G9.out, HX.out⟩)
          · skip
            refine box_step ?hg (N := 9) ?hd (cs := #[.int .i64 0, .string (⟨#[]⟩ : ByteArray)]) (t := 36) ?hr ?_; (case hd => rfl); (case hg => rfl); (case hr => first | (go_simp; done) | (go_simp; rfl))
            intro g9 hg wq hbox hb
            have NE : Aside0 (g8 ≠ g9) := ⟨by rw [hg]; exact Nat.ne_of_lt (blk_lt B8.out)⟩
            have G9 := Aside0.mk (show W.heap.size ≤ g9 by rw [hg]; exact HX.out.size)
            have n0_ := Aside0.mk (below_step HX.out hb)
            clear HX
            have HX := n0_
            clear n0_
            have n0_ := Aside0.mk (blk_below B4.out hb)
            clear B4
            have B4 := n0_
            clear n0_
            have n0_ := Aside0.mk (blk_below B8.out hb)
            clear B8
            have B8 := n0_
            clear n0_
            have B9 := Aside0.mk hbox
            clear hg hbox hb
            refine hK.out _ _ ⟨(blk_cell B4.out 0).trans rfl, (blk_cell B4.out 1).trans rfl⟩ (fun hHeld => ?_)
            clear hK K
            refine norm_ (a' := ?_) ?_ ?_
            rotate_left
            · show Act.put _ (some 9) _ = _
              simp only [Act.put, List.setIfInBounds_toArray, List.set_cons_zero, List.set_cons_succ, i64_w, i32_w]
              rfl
            refine one_ (i := 3) (N := some 20) #[true, true, true, true, true, true, false, false] rfl rfl (by kernel_rfl) (by decide) (fun K hK => ?_)
            refine goes_ Try.func106 (by kernel_rfl) rfl #[.agg #[.int .i64 N, .string s], .int .i64 1] (by rfl) rfl rfl (by simp only [List.map_toArray, List.map_cons, List.map_nil]; rfl) ?_
            with_reducible refine (impl_Table_half.calls N s 1 y1 y2 _ HY.out).mono ?_
            rintro e wq ⟨rfl, hb⟩
            refine ⟨_, rfl, ?_⟩
            have n0_ := Aside0.mk (below_step HX.out hb)
            clear HX
            have HX := n0_
            clear n0_
            have n0_ := Aside0.mk (blk_below B4.out hb)
            clear B4
            have B4 := n0_
            clear n0_
            have n0_ := Aside0.mk (blk_below B8.out hb)
            clear B8
            have B8 := n0_
            clear n0_
            have n0_ := Aside0.mk (blk_below B9.out hb)
            clear B9
            have B9 := n0_
            clear n0_
            clear hb
            refine hK.out _ _ ⟨(blk_cell B4.out 0).trans rfl, (blk_cell B4.out 1).trans rfl⟩ (fun hHeld => ?_)
            clear hK K
            refine norm_ (a' := ?_) ?_ ?_
            rotate_left
            · show Act.put _ (some 20) _ = _
              simp only [Act.put, List.setIfInBounds_toArray, List.set_cons_zero, List.set_cons_succ, i64_w, i32_w]
              rfl
            exact norm_ (by simp only [putAll, Act.put, List.setIfInBounds_toArray, List.set_cons_zero, List.set_cons_succ]) (hCont (g8, g9) _ ⟨B4.out, B8.out, B9.out, NE.out, G8.out, G9.out, HX.out⟩)
        · skip
          refine box_step ?hg (N := 9) ?hd (cs := #[.int .i64 0, .string (⟨#[]⟩ : ByteArray)]) (t := 36) ?hr ?_; (case hd => rfl); (case hg => rfl); (case hr => first | (go_simp; done) | (go_simp; rfl))
          intro g9 hg wq hbox hb
          have NE : Aside0 (g8 ≠ g9) := ⟨by rw [hg]; exact Nat.ne_of_lt (blk_lt B8.out)⟩
          have G9 := Aside0.mk (show W.heap.size ≤ g9 by rw [hg]; exact HX.out.size)
          have n0_ := Aside0.mk (below_step HX.out hb)
          clear HX
          have HX := n0_
          clear n0_
          have n0_ := Aside0.mk (blk_below B4.out hb)
          clear B4
          have B4 := n0_
          clear n0_
          have n0_ := Aside0.mk (blk_below B8.out hb)
          clear B8
          have B8 := n0_
          clear n0_
          have B9 := Aside0.mk hbox
          clear hg hbox hb
          refine hK.out _ _ ⟨(blk_cell B4.out 0).trans rfl, (blk_cell B4.out 1).trans rfl⟩ (fun hHeld => ?_)
          clear hK K
          refine norm_ (a' := ?_) ?_ ?_
          rotate_left
          · show Act.put _ (some 9) _ = _
            simp only [Act.put, List.setIfInBounds_toArray, List.set_cons_zero, List.set_cons_succ, i64_w, i32_w]
            rfl
          refine one_ (i := 1) (N := some 18) #[true, true, true, false, true, true, false, false] rfl rfl (by kernel_rfl) (by decide) (fun K hK => ?_)
          refine goes_ Try.func106 (by kernel_rfl) rfl #[.agg #[.int .i64 N, .string s], .int .i64 0] (by rfl) rfl rfl (by simp only [List.map_toArray, List.map_cons, List.map_nil]; rfl) ?_
          with_reducible refine (impl_Table_half.calls N s 0 z1 z2 _ HZ.out).mono ?_
          rintro e wq ⟨rfl, hb⟩
          refine ⟨_, rfl, ?_⟩
          have n0_ := Aside0.mk (below_step HX.out hb)
          clear HX
          have HX := n0_
          clear n0_
          have n0_ := Aside0.mk (blk_below B4.out hb)
          clear B4
          have B4 := n0_
          clear n0_
          have n0_ := Aside0.mk (blk_below B8.out hb)
          clear B8
          have B8 := n0_
          clear n0_
          have n0_ := Aside0.mk (blk_below B9.out hb)
          clear B9
          have B9 := n0_
          clear n0_
          clear hb
          refine hK.out _ _ ⟨(blk_cell B4.out 0).trans rfl, (blk_cell B4.out 1).trans rfl⟩ (fun hHeld => ?_)
          clear hK K
          refine norm_ (a' := ?_) ?_ ?_
          rotate_left
          · show Act.put _ (some 18) _ = _
            simp only [Act.put, List.setIfInBounds_toArray, List.set_cons_zero, List.set_cons_succ, i64_w, i32_w]
            rfl
          refine one_ (i := 3) (N := some 20) #[true, true, true, true, true, true, false, false] rfl rfl (by kernel_rfl) (by decide) (fun K hK => ?_)
          refine goes_ Try.func106 (by kernel_rfl) rfl #[.agg #[.int .i64 N, .string s], .int .i64 1] (by rfl) rfl rfl (by simp only [List.map_toArray, List.map_cons, List.map_nil]; rfl) ?_
          with_reducible refine (impl_Table_half.calls N s 1 y1 y2 _ HY.out).mono ?_
          rintro e wq ⟨rfl, hb⟩
          refine ⟨_, rfl, ?_⟩
          have n0_ := Aside0.mk (below_step HX.out hb)
          clear HX
          have HX := n0_
          clear n0_
          have n0_ := Aside0.mk (blk_below B4.out hb)
          clear B4
          have B4 := n0_
          clear n0_
          have n0_ := Aside0.mk (blk_below B8.out hb)
          clear B8
          have B8 := n0_
          clear n0_
          have n0_ := Aside0.mk (blk_below B9.out hb)
          clear B9
          have B9 := n0_
          clear n0_
          clear hb
          refine hK.out _ _ ⟨(blk_cell B4.out 0).trans rfl, (blk_cell B4.out 1).trans rfl⟩ (fun hHeld => ?_)
          clear hK K
          refine norm_ (a' := ?_) ?_ ?_
          rotate_left
          · show Act.put _ (some 20) _ = _
            simp only [Act.put, List.setIfInBounds_toArray, List.set_cons_zero, List.set_cons_succ, i64_w, i32_w]
            rfl
          exact norm_ (by simp only [putAll, Act.put, List.setIfInBounds_toArray, List.set_cons_zero, List.set_cons_succ]) (hCont (g8, g9) _ ⟨B4.out, B8.out, B9.out, NE.out, G8.out, G9.out, HX.out⟩)
      · skip
        refine box_step ?hg (N := 9) ?hd (cs := #[.int .i64 0, .string (⟨#[]⟩ : ByteArray)]) (t := 36) ?hr ?_; (case hd => rfl); (case hg => rfl); (case hr => first | (go_simp; done) | (go_simp; rfl))
        intro g9 hg wq hbox hb
        have G9 := Aside0.mk (show W.heap.size ≤ g9 by rw [hg]; exact HX.out.size)
        have n0_ := Aside0.mk (below_step HX.out hb)
        clear HX
        have HX := n0_
        clear n0_
        have n0_ := Aside0.mk (blk_below B4.out hb)
        clear B4
        have B4 := n0_
        clear n0_
        have B9 := Aside0.mk hbox
        clear hg hbox hb
        refine hK.out _ _ ⟨(blk_cell B4.out 0).trans rfl, (blk_cell B4.out 1).trans rfl⟩ (fun hHeld => ?_)
        clear hK K
        refine norm_ (a' := ?_) ?_ ?_
        rotate_left
        · show Act.put _ (some 9) _ = _
          simp only [Act.put, List.setIfInBounds_toArray, List.set_cons_zero, List.set_cons_succ, i64_w, i32_w]
          rfl
        refine two_ (i := 1) (j := 4) (Ni := some 18) (Nj := some 8) #[true, true, true, false, false, true, false, false] #[true, false, true, false, true, true, false, false] rfl rfl rfl rfl (by kernel_rfl) (by decide) (by decide) (fun K hK => ?_) (fun K hK => ?_)
        · skip
          refine goes_ Try.func106 (by kernel_rfl) rfl #[.agg #[.int .i64 N, .string s], .int .i64 0] (by rfl) rfl rfl (by simp only [List.map_toArray, List.map_cons, List.map_nil]; rfl) ?_
          with_reducible refine (impl_Table_half.calls N s 0 z1 z2 _ HZ.out).mono ?_
          rintro e wq ⟨rfl, hb⟩
          refine ⟨_, rfl, ?_⟩
          have n0_ := Aside0.mk (below_step HX.out hb)
          clear HX
          have HX := n0_
          clear n0_
          have n0_ := Aside0.mk (blk_below B4.out hb)
          clear B4
          have B4 := n0_
          clear n0_
          have n0_ := Aside0.mk (blk_below B9.out hb)
          clear B9
          have B9 := n0_
          clear n0_
          clear hb
          refine hK.out _ _ ⟨(blk_cell B4.out 0).trans rfl, (blk_cell B4.out 1).trans rfl⟩ (fun hHeld => ?_)
          clear hK K
          refine norm_ (a' := ?_) ?_ ?_
          rotate_left
          · show Act.put _ (some 18) _ = _
            simp only [Act.put, List.setIfInBounds_toArray, List.set_cons_zero, List.set_cons_succ, i64_w, i32_w]
            rfl
          refine two_ (i := 3) (j := 4) (Ni := some 20) (Nj := some 8) #[true, true, true, true, false, true, false, false] #[true, true, true, false, true, true, false, false] rfl rfl rfl rfl (by kernel_rfl) (by decide) (by decide) (fun K hK => ?_) (fun K hK => ?_)
          · skip
            refine goes_ Try.func106 (by kernel_rfl) rfl #[.agg #[.int .i64 N, .string s], .int .i64 1] (by rfl) rfl rfl (by simp only [List.map_toArray, List.map_cons, List.map_nil]; rfl) ?_
            with_reducible refine (impl_Table_half.calls N s 1 y1 y2 _ HY.out).mono ?_
            rintro e wq ⟨rfl, hb⟩
            refine ⟨_, rfl, ?_⟩
            have n0_ := Aside0.mk (below_step HX.out hb)
            clear HX
            have HX := n0_
            clear n0_
            have n0_ := Aside0.mk (blk_below B4.out hb)
            clear B4
            have B4 := n0_
            clear n0_
            have n0_ := Aside0.mk (blk_below B9.out hb)
            clear B9
            have B9 := n0_
            clear n0_
            clear hb
            refine hK.out _ _ ⟨(blk_cell B4.out 0).trans rfl, (blk_cell B4.out 1).trans rfl⟩ (fun hHeld => ?_)
            clear hK K
            refine norm_ (a' := ?_) ?_ ?_
            rotate_left
            · show Act.put _ (some 20) _ = _
              simp only [Act.put, List.setIfInBounds_toArray, List.set_cons_zero, List.set_cons_succ, i64_w, i32_w]
              rfl
            refine one_ (i := 4) (N := some 8) #[true, true, true, true, true, true, false, false] rfl rfl (by kernel_rfl) (by decide) (fun K hK => ?_)
            refine box_step ?hg (N := 8) ?hd (cs := #[.int .i64 0, .string (⟨#[]⟩ : ByteArray)]) (t := 36) ?hr ?_; (case hd => rfl); (case hg => rfl); (case hr => first | (go_simp; done) | (go_simp; rfl))
            intro g8 hg wq hbox hb
            have NE : Aside0 (g8 ≠ g9) := ⟨by rw [hg]; exact Nat.ne_of_gt (blk_lt B9.out)⟩
            have G8 := Aside0.mk (show W.heap.size ≤ g8 by rw [hg]; exact HX.out.size)
            have n0_ := Aside0.mk (below_step HX.out hb)
            clear HX
            have HX := n0_
            clear n0_
            have n0_ := Aside0.mk (blk_below B4.out hb)
            clear B4
            have B4 := n0_
            clear n0_
            have n0_ := Aside0.mk (blk_below B9.out hb)
            clear B9
            have B9 := n0_
            clear n0_
            have B8 := Aside0.mk hbox
            clear hg hbox hb
            refine hK.out _ _ ⟨(blk_cell B4.out 0).trans rfl, (blk_cell B4.out 1).trans rfl⟩ (fun hHeld => ?_)
            clear hK K
            refine norm_ (a' := ?_) ?_ ?_
            rotate_left
            · show Act.put _ (some 8) _ = _
              simp only [Act.put, List.setIfInBounds_toArray, List.set_cons_zero, List.set_cons_succ, i64_w, i32_w]
              rfl
            exact norm_ (by simp only [putAll, Act.put, List.setIfInBounds_toArray, List.set_cons_zero, List.set_cons_succ]) (hCont (g8, g9) _ ⟨B4.out, B8.out, B9.out, NE.out, G8.out, G9.out, HX.out⟩)
          · skip
            refine box_step ?hg (N := 8) ?hd (cs := #[.int .i64 0, .string (⟨#[]⟩ : ByteArray)]) (t := 36) ?hr ?_; (case hd => rfl); (case hg => rfl); (case hr => first | (go_simp; done) | (go_simp; rfl))
            intro g8 hg wq hbox hb
            have NE : Aside0 (g8 ≠ g9) := ⟨by rw [hg]; exact Nat.ne_of_gt (blk_lt B9.out)⟩
            have G8 := Aside0.mk (show W.heap.size ≤ g8 by rw [hg]; exact HX.out.size)
            have n0_ := Aside0.mk (below_step HX.out hb)
            clear HX
            have HX := n0_
            clear n0_
            have n0_ := Aside0.mk (blk_below B4.out hb)
            clear B4
            have B4 := n0_
            clear n0_
            have n0_ := Aside0.mk (blk_below B9.out hb)
            clear B9
            have B9 := n0_
            clear n0_
            have B8 := Aside0.mk hbox
            clear hg hbox hb
            refine hK.out _ _ ⟨(blk_cell B4.out 0).trans rfl, (blk_cell B4.out 1).trans rfl⟩ (fun hHeld => ?_)
            clear hK K
            refine norm_ (a' := ?_) ?_ ?_
            rotate_left
            · show Act.put _ (some 8) _ = _
              simp only [Act.put, List.setIfInBounds_toArray, List.set_cons_zero, List.set_cons_succ, i64_w, i32_w]
              rfl
            refine one_ (i := 3) (N := some 20) #[true, true, true, true, true, true, false, false] rfl rfl (by kernel_rfl) (by decide) (fun K hK => ?_)
            refine goes_ Try.func106 (by kernel_rfl) rfl #[.agg #[.int .i64 N, .string s], .int .i64 1] (by rfl) rfl rfl (by simp only [List.map_toArray, List.map_cons, List.map_nil]; rfl) ?_
            with_reducible refine (impl_Table_half.calls N s 1 y1 y2 _ HY.out).mono ?_
            rintro e wq ⟨rfl, hb⟩
            refine ⟨_, rfl, ?_⟩
            have n0_ := Aside0.mk (below_step HX.out hb)
            clear HX
            have HX := n0_
            clear n0_
            have n0_ := Aside0.mk (blk_below B4.out hb)
            clear B4
            have B4 := n0_
            clear n0_
            have n0_ := Aside0.mk (blk_below B8.out hb)
            clear B8
            have B8 := n0_
            clear n0_
            have n0_ := Aside0.mk (blk_below B9.out hb)
            clear B9
            have B9 := n0_
            clear n0_
            clear hb
            refine hK.out _ _ ⟨(blk_cell B4.out 0).trans rfl, (blk_cell B4.out 1).trans rfl⟩ (fun hHeld => ?_)
            clear hK K
            refine norm_ (a' := ?_) ?_ ?_
            rotate_left
            · show Act.put _ (some 20) _ = _
              simp only [Act.put, List.setIfInBounds_toArray, List.set_cons_zero, List.set_cons_succ, i64_w, i32_w]
              rfl
            exact norm_ (by simp only [putAll, Act.put, List.setIfInBounds_toArray, List.set_cons_zero, List.set_cons_succ]) (hCont (g8, g9) _ ⟨B4.out, B8.out, B9.out, NE.out, G8.out, G9.out, HX.out⟩)
        · skip
          refine box_step ?hg (N := 8) ?hd (cs := #[.int .i64 0, .string (⟨#[]⟩ : ByteArray)]) (t := 36) ?hr ?_; (case hd => rfl); (case hg => rfl); (case hr => first | (go_simp; done) | (go_simp; rfl))
          intro g8 hg wq hbox hb
          have NE : Aside0 (g8 ≠ g9) := ⟨by rw [hg]; exact Nat.ne_of_gt (blk_lt B9.out)⟩
          have G8 := Aside0.mk (show W.heap.size ≤ g8 by rw [hg]; exact HX.out.size)
          have n0_ := Aside0.mk (below_step HX.out hb)
          clear HX
          have HX := n0_
          clear n0_
          have n0_ := Aside0.mk (blk_below B4.out hb)
          clear B4
          have B4 := n0_
          clear n0_
          have n0_ := Aside0.mk (blk_below B9.out hb)
          clear B9
          have B9 := n0_
          clear n0_
          have B8 := Aside0.mk hbox
          clear hg hbox hb
          refine hK.out _ _ ⟨(blk_cell B4.out 0).trans rfl, (blk_cell B4.out 1).trans rfl⟩ (fun hHeld => ?_)
          clear hK K
          refine norm_ (a' := ?_) ?_ ?_
          rotate_left
          · show Act.put _ (some 8) _ = _
            simp only [Act.put, List.setIfInBounds_toArray, List.set_cons_zero, List.set_cons_succ, i64_w, i32_w]
            rfl
          refine one_ (i := 1) (N := some 18) #[true, true, true, false, true, true, false, false] rfl rfl (by kernel_rfl) (by decide) (fun K hK => ?_)
          refine goes_ Try.func106 (by kernel_rfl) rfl #[.agg #[.int .i64 N, .string s], .int .i64 0] (by rfl) rfl rfl (by simp only [List.map_toArray, List.map_cons, List.map_nil]; rfl) ?_
          with_reducible refine (impl_Table_half.calls N s 0 z1 z2 _ HZ.out).mono ?_
          rintro e wq ⟨rfl, hb⟩
          refine ⟨_, rfl, ?_⟩
          have n0_ := Aside0.mk (below_step HX.out hb)
          clear HX
          have HX := n0_
          clear n0_
          have n0_ := Aside0.mk (blk_below B4.out hb)
          clear B4
          have B4 := n0_
          clear n0_
          have n0_ := Aside0.mk (blk_below B8.out hb)
          clear B8
          have B8 := n0_
          clear n0_
          have n0_ := Aside0.mk (blk_below B9.out hb)
          clear B9
          have B9 := n0_
          clear n0_
          clear hb
          refine hK.out _ _ ⟨(blk_cell B4.out 0).trans rfl, (blk_cell B4.out 1).trans rfl⟩ (fun hHeld => ?_)
          clear hK K
          refine norm_ (a' := ?_) ?_ ?_
          rotate_left
          · show Act.put _ (some 18) _ = _
            simp only [Act.put, List.setIfInBounds_toArray, List.set_cons_zero, List.set_cons_succ, i64_w, i32_w]
            rfl
          refine one_ (i := 3) (N := some 20) #[true, true, true, true, true, true, false, false] rfl rfl (by kernel_rfl) (by decide) (fun K hK => ?_)
          refine goes_ Try.func106 (by kernel_rfl) rfl #[.agg #[.int .i64 N, .string s], .int .i64 1] (by rfl) rfl rfl (by simp only [List.map_toArray, List.map_cons, List.map_nil]; rfl) ?_
          with_reducible refine (impl_Table_half.calls N s 1 y1 y2 _ HY.out).mono ?_
          rintro e wq ⟨rfl, hb⟩
          refine ⟨_, rfl, ?_⟩
          have n0_ := Aside0.mk (below_step HX.out hb)
          clear HX
          have HX := n0_
          clear n0_
          have n0_ := Aside0.mk (blk_below B4.out hb)
          clear B4
          have B4 := n0_
          clear n0_
          have n0_ := Aside0.mk (blk_below B8.out hb)
          clear B8
          have B8 := n0_
          clear n0_
          have n0_ := Aside0.mk (blk_below B9.out hb)
          clear B9
          have B9 := n0_
          clear n0_
          clear hb
          refine hK.out _ _ ⟨(blk_cell B4.out 0).trans rfl, (blk_cell B4.out 1).trans rfl⟩ (fun hHeld => ?_)
          clear hK K
          refine norm_ (a' := ?_) ?_ ?_
          rotate_left
          · show Act.put _ (some 20) _ = _
            simp only [Act.put, List.setIfInBounds_toArray, List.set_cons_zero, List.set_cons_succ, i64_w, i32_w]
            rfl
          exact norm_ (by simp only [putAll, Act.put, List.setIfInBounds_toArray, List.set_cons_zero, List.set_cons_succ]) (hCont (g8, g9) _ ⟨B4.out, B8.out, B9.out, NE.out, G8.out, G9.out, HX.out⟩)
    rintro ⟨g8, g9⟩ w7 ⟨hb4, hb8, hb9, hne, hg8, hg9, hbx⟩
    have hHeld : w7.cell? ⟨g4, 0, none⟩ = some (.int .i64 N) ∧ w7.cell? ⟨g4, 1, none⟩ = some (.string s) := ⟨(blk_cell hb4 0).trans rfl, (blk_cell hb4 1).trans rfl⟩
    have B4 := Aside0.mk hb4
    have B8 := Aside0.mk hb8
    have B9 := Aside0.mk hb9
    have NE := Aside0.mk hne
    have G8 := Aside0.mk hg8
    have G9 := Aside0.mk hg9
    have HX := Aside0.mk hbx
    clear hb4 hb8 hb9 hne hg8 hg9 hbx
    refine norm_ (a' := ?_) ?_ ?_
    rotate_left
    · simp only [putAll, Act.put, List.setIfInBounds_toArray, List.set_cons_zero, List.set_cons_succ]
      rfl
    refine last_ (i := 6) (N := none) #[true, true, true, true, true, true, true, false] rfl rfl (by kernel_rfl) (by decide) (fun K hK => ?_)
    have hs0 : w7.cell? ⟨g8, 0, none⟩ = some (.int .i64 0) := (blk_cell B8.out 0).trans rfl
    have hs1 : w7.cell? ⟨g8, 1, none⟩ = some (.string (⟨#[]⟩ : ByteArray)) := (blk_cell B8.out 1).trans rfl
    have hf0 := blk_frozen B8.out 0
    have hf1 := blk_frozen B8.out 1
    refine skip_ (w1 := ?_) (by rfl) rfl ?_ ?_
    rotate_left
    · go_simp
      rfl
    clear hs0 hs1 hf0 hf1
    refine hK.out _ _ ?_
    clear hK K
    refine last_ (i := 7) (N := none) #[true, true, true, true, true, true, true, true] rfl rfl (by kernel_rfl) (by decide) (fun K hK => ?_)
    have B9' := Aside0.mk (blk_far (blk_far B9.out NE.out.symm (p := (⟨g8, 0, none⟩ : Addr)) (.int .i64 z1)) NE.out.symm (p := (⟨g8, 1, none⟩ : Addr)) (.string z2))
    have hs0 : ((w7.setCell ⟨g8, 0, none⟩ (.int .i64 z1)).setCell ⟨g8, 1, none⟩ (.string z2)).cell? ⟨g9, 0, none⟩ = some (.int .i64 0) := (blk_cell B9'.out 0).trans rfl
    have hs1 : ((w7.setCell ⟨g8, 0, none⟩ (.int .i64 z1)).setCell ⟨g8, 1, none⟩ (.string z2)).cell? ⟨g9, 1, none⟩ = some (.string (⟨#[]⟩ : ByteArray)) := (blk_cell B9'.out 1).trans rfl
    have hf0 := blk_frozen B9'.out 0
    have hf1 := blk_frozen B9'.out 1
    refine skip_ (w1 := ?_) (by rfl) rfl ?_ ?_
    rotate_left
    · go_simp
      rfl
    clear hs0 hs1 hf0 hf1
    refine hK.out _ _ ?_
    clear hK K
    refine done_ (by kernel_rfl) ?_

    have B88 : Aside0 (((((w7.setCell ⟨g8, 0, none⟩ (.int .i64 z1)).setCell ⟨g8, 1, none⟩ (.string z2)).setCell ⟨g9, 0, none⟩ (.int .i64 y1)).setCell ⟨g9, 1, none⟩ (.string y2)).heap[g8]? = some (.cells #[.int .i64 z1, .string z2] 36 (0, 0))) := ⟨blk_far (blk_far (blk_put (cs := #[.int .i64 z1, .string (⟨#[]⟩ : ByteArray)]) (blk_put (cs := #[.int .i64 0, .string (⟨#[]⟩ : ByteArray)]) B8.out 0 _ rfl) 1 _ rfl) NE.out _) NE.out _⟩
    have B98 : Aside0 (((((w7.setCell ⟨g8, 0, none⟩ (.int .i64 z1)).setCell ⟨g8, 1, none⟩ (.string z2)).setCell ⟨g9, 0, none⟩ (.int .i64 y1)).setCell ⟨g9, 1, none⟩ (.string y2)).heap[g9]? = some (.cells #[.int .i64 y1, .string y2] 36 (0, 0))) := ⟨blk_put (cs := #[.int .i64 y1, .string (⟨#[]⟩ : ByteArray)]) (blk_put (cs := #[.int .i64 0, .string (⟨#[]⟩ : ByteArray)]) (blk_far (blk_far B9.out NE.out.symm _) NE.out.symm _) 0 _ rfl) 1 _ rfl⟩
    have hWw := Aside0.mk HX4.out.size
    have HX8 : Aside0 (Below w.heap.size w ((((w7.setCell ⟨g8, 0, none⟩ (.int .i64 z1)).setCell ⟨g8, 1, none⟩ (.string z2)).setCell ⟨g9, 0, none⟩ (.int .i64 y1)).setCell ⟨g9, 1, none⟩ (.string y2))) := ⟨below_set (below_set (below_set (below_set (below_step HX4.out HX.out) (Nat.le_trans hWw.out G8.out)) (Nat.le_trans hWw.out G8.out)) (Nat.le_trans hWw.out G9.out)) (Nat.le_trans hWw.out G9.out)⟩
    have NG8 : Aside0 (g8 ≠ g) := ⟨by have := G8.out; have := hWw.out; have := HGL.out; omega⟩
    have NG9 : Aside0 (g9 ≠ g) := ⟨by have := G9.out; have := hWw.out; have := HGL.out; omega⟩
    have HI8 := Aside0.mk (HI.out.below HX8.out)
    have HB8 := Aside0.mk (below_step HB.out HX8.out)
    have HF8 : Aside0 (Fr g w ((((w7.setCell ⟨g8, 0, none⟩ (.int .i64 z1)).setCell ⟨g8, 1, none⟩ (.string z2)).setCell ⟨g9, 0, none⟩ (.int .i64 y1)).setCell ⟨g9, 1, none⟩ (.string y2))) := ⟨fun k_ cs T _ _ h_ => blk_below h_ HX8.out⟩
    clear HX8 B8 B9 B4 HX HX4
    generalize ((((w7.setCell ⟨g8, 0, none⟩ (.int .i64 z1)).setCell ⟨g8, 1, none⟩ (.string z2)).setCell ⟨g9, 0, none⟩ (.int .i64 y1)).setCell ⟨g9, 1, none⟩ (.string y2)) = w8 at B88 B98 HI8 HB8 HF8 ⊢
    have hc80 : w8.cell? ⟨g8, 0, none⟩ = some (.int .i64 z1) := (blk_cell B88.out 0).trans rfl
    have hc81 : w8.cell? ⟨g8, 1, none⟩ = some (.string z2) := (blk_cell B88.out 1).trans rfl
    have hc90 : w8.cell? ⟨g9, 0, none⟩ = some (.int .i64 y1) := (blk_cell B98.out 0).trans rfl
    have hc91 : w8.cell? ⟨g9, 1, none⟩ = some (.string y2) := (blk_cell B98.out 1).trans rfl
    have h := HH.out
    dsimp only at h
    clear HH
    by_cases c3 : u2 < 0
    · rw [if_pos c3] at h
      obtain rfl := Option.some.inj h
      have d3 : decide (u2 < 0) = true := decide_eq_true c3
      clear c3 h
      go_wp2_with (first | ((with_reducible refine gate_callee (f := 86) rfl ?_); (try (refine gate_guard (by rfl) ?_; dsimp only)); refine goesL_ (some 25) rfl rfl Try.func86 (by kernel_rfl) rfl #[.pointer (some ⟨g, 0, none⟩), .agg #[.int .i64 z1, .string z2], .int .i64 (wrap64 (i + 1))] rfl (by (try simp only [List.map_toArray, List.map_cons, List.map_nil]); first | done | rfl) ?_; (with_reducible refine (ih w0 ins L z1 z2 (wrap64 (i + 1)) (u1, u2) _ HI8.out HB8.out HN.out HL.out HU.out).mono ?_); rintro e w9 ⟨rfl, hI, hB, hF⟩; refine ⟨_, rfl, ?_⟩; have HI9 := Aside0.mk hI; have HB9 := Aside0.mk hB; have HF9 := Aside0.mk (HF8.out.trans hF); have B89 := Aside0.mk (hF g8 _ 36 NG8.out (by decide) B88.out); have B99 := Aside0.mk (hF g9 _ 36 NG9.out (by decide) B98.out); clear hc80 hc81 hc90 hc91; have hc80 : w9.cell? ⟨g8, 0, none⟩ = some (.int .i64 z1) := (blk_cell B89.out 0).trans rfl; have hc81 : w9.cell? ⟨g8, 1, none⟩ = some (.string z2) := (blk_cell B89.out 1).trans rfl; have hc90 : w9.cell? ⟨g9, 0, none⟩ = some (.int .i64 y1) := (blk_cell B99.out 0).trans rfl; have hc91 : w9.cell? ⟨g9, 1, none⟩ = some (.string y2) := (blk_cell B99.out 1).trans rfl; clear hI hB hF))
      go_ret
      exact ⟨rfl, HI9.out, HB9.out, HF9.out⟩
    rw [if_neg c3] at h
    have d3 : decide (u2 < 0) = false := decide_eq_false c3
    by_cases c4 : z2.toList = y2.toList
    · rw [if_pos c4] at h
      obtain rfl := Option.some.inj h
      have d4 : (z2.toList == y2.toList) = true := beq_iff_eq.2 c4
      clear c3 c4 h
      go_wp2_with (first | ((with_reducible refine gate_callee (f := 86) rfl ?_); (try (refine gate_guard (by rfl) ?_; dsimp only)); refine goesL_ (some 25) rfl rfl Try.func86 (by kernel_rfl) rfl #[.pointer (some ⟨g, 0, none⟩), .agg #[.int .i64 z1, .string z2], .int .i64 (wrap64 (i + 1))] rfl (by (try simp only [List.map_toArray, List.map_cons, List.map_nil]); first | done | rfl) ?_; (with_reducible refine (ih w0 ins L z1 z2 (wrap64 (i + 1)) (u1, u2) _ HI8.out HB8.out HN.out HL.out HU.out).mono ?_); rintro e w9 ⟨rfl, hI, hB, hF⟩; refine ⟨_, rfl, ?_⟩; have HI9 := Aside0.mk hI; have HB9 := Aside0.mk hB; have HF9 := Aside0.mk (HF8.out.trans hF); have B89 := Aside0.mk (hF g8 _ 36 NG8.out (by decide) B88.out); have B99 := Aside0.mk (hF g9 _ 36 NG9.out (by decide) B98.out); clear hc80 hc81 hc90 hc91; have hc80 : w9.cell? ⟨g8, 0, none⟩ = some (.int .i64 z1) := (blk_cell B89.out 0).trans rfl; have hc81 : w9.cell? ⟨g8, 1, none⟩ = some (.string z2) := (blk_cell B89.out 1).trans rfl; have hc90 : w9.cell? ⟨g9, 0, none⟩ = some (.int .i64 y1) := (blk_cell B99.out 0).trans rfl; have hc91 : w9.cell? ⟨g9, 1, none⟩ = some (.string y2) := (blk_cell B99.out 1).trans rfl; clear hI hB hF))
      go_ret
      exact ⟨rfl, HI9.out, HB9.out, HF9.out⟩
    rw [if_neg c4] at h
    have d4 : (z2.toList == y2.toList) = false := beq_eq_false_iff_ne.2 c4
    by_cases c5 : u2 ≤ 1048575 ∧ u1.length ≤ 3000
    case neg => rw [if_neg c5] at h; cases h
    rw [if_pos c5] at h
    obtain ⟨⟨v1, v2⟩, hv, h⟩ := Option.bind_eq_some_iff.1 h
    dsimp only at h
    have HV := Aside0.mk hv
    have HU2 := Aside0.mk (show 0 ≤ u2 ∧ u2 ≤ 1048575 by omega)
    have HLU := Aside0.mk c5.2
    clear hv c3 c4 c5
    by_cases c6 : v2 < 0
    · rw [if_pos c6] at h
      obtain rfl := Option.some.inj h
      have d6 : decide (v2 < 0) = true := decide_eq_true c6
      clear c6 h
      go_wp2_with (first | ((with_reducible refine gate_callee (f := 86) rfl ?_); (try (refine gate_guard (by rfl) ?_; dsimp only)); refine goesL_ (some 25) rfl rfl Try.func86 (by kernel_rfl) rfl #[.pointer (some ⟨g, 0, none⟩), .agg #[.int .i64 z1, .string z2], .int .i64 (wrap64 (i + 1))] rfl (by (try simp only [List.map_toArray, List.map_cons, List.map_nil]); first | done | rfl) ?_; (with_reducible refine (ih w0 ins L z1 z2 (wrap64 (i + 1)) (u1, u2) _ HI8.out HB8.out HN.out HL.out HU.out).mono ?_); rintro e w9 ⟨rfl, hI, hB, hF⟩; refine ⟨_, rfl, ?_⟩; have HI9 := Aside0.mk hI; have HB9 := Aside0.mk hB; have HF9 := Aside0.mk (HF8.out.trans hF); have B89 := Aside0.mk (hF g8 _ 36 NG8.out (by decide) B88.out); have B99 := Aside0.mk (hF g9 _ 36 NG9.out (by decide) B98.out); clear hc80 hc81 hc90 hc91; have hc80 : w9.cell? ⟨g8, 0, none⟩ = some (.int .i64 z1) := (blk_cell B89.out 0).trans rfl; have hc81 : w9.cell? ⟨g8, 1, none⟩ = some (.string z2) := (blk_cell B89.out 1).trans rfl; have hc90 : w9.cell? ⟨g9, 0, none⟩ = some (.int .i64 y1) := (blk_cell B99.out 0).trans rfl; have hc91 : w9.cell? ⟨g9, 1, none⟩ = some (.string y2) := (blk_cell B99.out 1).trans rfl; clear hI hB hF) | ((with_reducible refine gate_callee (f := 86) rfl ?_); (try (refine gate_guard (by rfl) ?_; dsimp only)); refine goesL_ (some 40) rfl rfl Try.func86 (by kernel_rfl) rfl #[.pointer (some ⟨g, 0, none⟩), .agg #[.int .i64 y1, .string y2], .int .i64 (wrap64 (i + 1))] rfl (by (try simp only [List.map_toArray, List.map_cons, List.map_nil]); first | done | rfl) ?_; (with_reducible refine (ih w0 ins u1 y1 y2 (wrap64 (i + 1)) (v1, v2) _ HI9.out HB9.out HN.out HLU.out HV.out).mono ?_); rintro e w10 ⟨rfl, hI, hB, hF⟩; refine ⟨_, rfl, ?_⟩; have HI10 := Aside0.mk hI; have HB10 := Aside0.mk hB; have HF10 := Aside0.mk (HF9.out.trans hF); have B810 := Aside0.mk (hF g8 _ 36 NG8.out (by decide) B89.out); have B910 := Aside0.mk (hF g9 _ 36 NG9.out (by decide) B99.out); clear hc80 hc81 hc90 hc91; have hc80 : w10.cell? ⟨g8, 0, none⟩ = some (.int .i64 z1) := (blk_cell B810.out 0).trans rfl; have hc81 : w10.cell? ⟨g8, 1, none⟩ = some (.string z2) := (blk_cell B810.out 1).trans rfl; have hc90 : w10.cell? ⟨g9, 0, none⟩ = some (.int .i64 y1) := (blk_cell B910.out 0).trans rfl; have hc91 : w10.cell? ⟨g9, 1, none⟩ = some (.string y2) := (blk_cell B910.out 1).trans rfl; clear hI hB hF))
      go_ret
      exact ⟨rfl, HI10.out, HB10.out, HF10.out⟩
    rw [if_neg c6] at h
    have d6 : decide (v2 < 0) = false := decide_eq_false c6
    by_cases c7 : v2 ≤ 1048575 ∧ v1.length ≤ 3000
    case neg => rw [if_neg c7] at h; cases h
    rw [if_pos c7] at h
    obtain rfl := Option.some.inj h
    have HV2 := Aside0.mk (show 0 ≤ v2 ∧ v2 ≤ 1048575 by omega)
    have HLV := Aside0.mk c7.2
    clear c6 c7 h
    go_wp2_with (first | ((with_reducible refine gate_callee (f := 86) rfl ?_); (try (refine gate_guard (by rfl) ?_; dsimp only)); refine goesL_ (some 25) rfl rfl Try.func86 (by kernel_rfl) rfl #[.pointer (some ⟨g, 0, none⟩), .agg #[.int .i64 z1, .string z2], .int .i64 (wrap64 (i + 1))] rfl (by (try simp only [List.map_toArray, List.map_cons, List.map_nil]); first | done | rfl) ?_; (with_reducible refine (ih w0 ins L z1 z2 (wrap64 (i + 1)) (u1, u2) _ HI8.out HB8.out HN.out HL.out HU.out).mono ?_); rintro e w9 ⟨rfl, hI, hB, hF⟩; refine ⟨_, rfl, ?_⟩; have HI9 := Aside0.mk hI; have HB9 := Aside0.mk hB; have HF9 := Aside0.mk (HF8.out.trans hF); have B89 := Aside0.mk (hF g8 _ 36 NG8.out (by decide) B88.out); have B99 := Aside0.mk (hF g9 _ 36 NG9.out (by decide) B98.out); clear hc80 hc81 hc90 hc91; have hc80 : w9.cell? ⟨g8, 0, none⟩ = some (.int .i64 z1) := (blk_cell B89.out 0).trans rfl; have hc81 : w9.cell? ⟨g8, 1, none⟩ = some (.string z2) := (blk_cell B89.out 1).trans rfl; have hc90 : w9.cell? ⟨g9, 0, none⟩ = some (.int .i64 y1) := (blk_cell B99.out 0).trans rfl; have hc91 : w9.cell? ⟨g9, 1, none⟩ = some (.string y2) := (blk_cell B99.out 1).trans rfl; clear hI hB hF) | ((with_reducible refine gate_callee (f := 86) rfl ?_); (try (refine gate_guard (by rfl) ?_; dsimp only)); refine goesL_ (some 40) rfl rfl Try.func86 (by kernel_rfl) rfl #[.pointer (some ⟨g, 0, none⟩), .agg #[.int .i64 y1, .string y2], .int .i64 (wrap64 (i + 1))] rfl (by (try simp only [List.map_toArray, List.map_cons, List.map_nil]); first | done | rfl) ?_; (with_reducible refine (ih w0 ins u1 y1 y2 (wrap64 (i + 1)) (v1, v2) _ HI9.out HB9.out HN.out HLU.out HV.out).mono ?_); rintro e w10 ⟨rfl, hI, hB, hF⟩; refine ⟨_, rfl, ?_⟩; have HI10 := Aside0.mk hI; have HB10 := Aside0.mk hB; have HF10 := Aside0.mk (HF9.out.trans hF); have B810 := Aside0.mk (hF g8 _ 36 NG8.out (by decide) B89.out); have B910 := Aside0.mk (hF g9 _ 36 NG9.out (by decide) B99.out); clear hc80 hc81 hc90 hc91; have hc80 : w10.cell? ⟨g8, 0, none⟩ = some (.int .i64 z1) := (blk_cell B810.out 0).trans rfl; have hc81 : w10.cell? ⟨g8, 1, none⟩ = some (.string z2) := (blk_cell B810.out 1).trans rfl; have hc90 : w10.cell? ⟨g9, 0, none⟩ = some (.int .i64 y1) := (blk_cell B910.out 0).trans rfl; have hc91 : w10.cell? ⟨g9, 1, none⟩ = some (.string y2) := (blk_cell B910.out 1).trans rfl; clear hI hB hF) | ((with_reducible refine gate_callee (f := 82) rfl ?_); (try (refine gate_guard (by rfl) ?_; dsimp only)); refine goesL_ (some 49) rfl rfl Try.func82 (by kernel_rfl) rfl #[.pointer (some ⟨g, 0, none⟩), .int .i64 (wrap64 (2 * (wrap64 (i + 1)))), .int .i64 v2, .int .i64 u2] rfl (by (try simp only [List.map_toArray, List.map_cons, List.map_nil]); first | done | rfl) ?_; (with_reducible refine (builder_pick.calls w0 g ins v1 (wrap64 (2 * (wrap64 (i + 1)))) v2 u2 _ HI10.out HB10.out HI2.out HV2.out HU2.out HN.out HLV.out).mono ?_); rintro e w11 ⟨rfl, hI, hB, hF⟩; refine ⟨_, rfl, ?_⟩; have HI11 := Aside0.mk hI; have HB11 := Aside0.mk hB; have HF11 := Aside0.mk (HF10.out.trans hF); clear hI hB hF))
    go_ret
    exact ⟨rfl, HI11.out, HB11.out, HF11.out⟩
theorem newBuilder0.calls (ins : Int) (w : World) (hin : 0 ≤ ins ∧ ins ≤ 1000) : Calls Try.prog 85 #[.agg #[.int .i64 ins, .slice none 0 0]] w fun e w' => ∃ g, e = .returned (.pointer (some ⟨g, 0, none⟩)) ∧ IsBx w' w.heap.size g ins [] ∧ Below w.heap.size w w' :=
  newBuilder.calls ins none 0 ([] : List S79) w (Kd.C_nil _ _) (Nat.le_refl 0) hin (Nat.zero_le _) (fun i hi => absurd hi (Nat.not_lt_zero i))
end Go.Proofs.Yteagogcpbcickaa.G
