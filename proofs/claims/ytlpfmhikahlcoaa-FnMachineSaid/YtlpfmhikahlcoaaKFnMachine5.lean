-- texts of this session, merged by a program of it (wip/gen/pack.py)
import Derived.Test.YtlpfmhikahlcoaaKFnMachine3
import Derived.Test.YtlpfmhikahlcoaaKFnMachine2
import Derived.Test.YtlpfmhikahlcoaaKFnMachine4
namespace Go.Proofs.Ytlpfmhikahlcoaa.G
open Go.RowKit Go.Proofs.YtlpfmhikahlcoaaW.PrintWords Go.Proofs.YtlpfmhikahlcoaaW.PrintLast Go.Proofs.YtlpfmhikahlcoaaW.PrintMore
attribute [local go_sem] max2_int min2_int max_two min_two max_three min_three max_four min_four
set_option linter.unusedVariables false
set_option linter.unusedSimpArgs false
open Go.Proofs.Ytlpfmhikahlcoaa.Fv Go.Proofs.Ytlpfmhikahlcoaa.Sh
def seenF : Nat → List S86 → ByteArray → Int → Option Int
  | 0, _, _, _ => none
  | k + 1, l, key, i => if i < (l.length : Int) then (if 0 ≤ i then (if ((rd_T86 l i).f0).toList = key.toList then some i else seenF k l key (wrap64 (i + 1))) else none) else some (-1)
set_option maxHeartbeats 8000000 in
set_option maxRecDepth 100000 in
theorem seen1.calls (g : Nat) (key : ByteArray) (x : S86) (w : World) (hb : w.heap[g]? = some (.cells #[.string key] 9 (0, 0))) :
    Calls Try.prog 135 (#[.agg #[.string x.f0, .int .i64 x.f1]] ++ #[.pointer (some ⟨g, 0, none⟩)]) w fun e w' => e = .returned (.bool (x.f0.toList == key.toList)) ∧ Below w.heap.size w w' := by
  show Calls Try.prog 135 #[.agg #[.string x.f0, .int .i64 x.f1], .pointer (some ⟨g, 0, none⟩)] w _
  have BC := Aside0.mk hb
  clear hb
  go_enter Try.func135, Try.ntmps135
  go_wp2_with (first | ((with_reducible refine gate_dst (N := 2) rfl ?_); refine box_event ?hg (N := 2) ?hd (cs := #[.string x.f0, .int .i64 x.f1]) (t := 86) ?hr ?_; (case hd => rfl); (case hg => rfl); (case hr => first | (go_simp; done) | (go_simp; rfl)); intro g2 hg w2 hbox hb; have B2 := Aside0.mk hbox; have HX := Aside0.mk hb; have BC2 := Aside0.mk (blk_below BC.out hb); have hcc : w2.cell? ⟨g, 0, none⟩ = some (.string key) := (blk_cell BC2.out 0).trans rfl; have hc0 : w2.cell? ⟨g2, 0, none⟩ = some (.string x.f0) := (blk_cell B2.out 0).trans rfl; have hc1 : w2.cell? ⟨g2, 1, none⟩ = some (.int .i64 x.f1) := (blk_cell B2.out 1).trans rfl; clear hg hbox hb))
  go_ret
  exact ⟨rfl, HX.out⟩
set_option maxHeartbeats 8000000 in
set_option maxRecDepth 100000 in
theorem indexFunc.calls (k : Nat) (A : Option Addr) (c : Nat) (l : List S86) (g : Nat) (key : ByteArray) (r : Int) (w : World) (hr : Kd.C k86 w A l.length l) (hc : l.length ≤ c) (hb : w.heap[g]? = some (.cells #[.string key] 9 (0, 0))) (h : seenF k l key 0 = some r) :
    Calls Try.prog 134 #[.slice A l.length c, .func (.func 135) #[] #[.pointer (some ⟨g, 0, none⟩)]] w fun e w' => e = .returned (.int .i64 r) ∧ Below w.heap.size w w' := by
  have HR := Aside0.mk hr
  have HC := Aside0.mk hc
  have BC := Aside0.mk hb
  have H' := Aside0.mk h
  have hf : Enterable Try.prog 135 := Enterable.of Try.func135 (by kernel_rfl) (by kernel_rfl)
  clear hr hc hb h
  go_enter Try.func134, Try.ntmps134
  go_wp2
  go_loopg [8] k (fun kq v8 wr => ∃ x : Int, v8 = .int .i64 x ∧ Aside0 (seenF kq l key x = some r) ∧ Aside0 (kq ≤ k) ∧ Aside0 (wr.heap[g]? = some (.cells #[.string key] 9 (0, 0))) ∧ Aside0 (Below w.heap.size w wr))
  case atStart => exact ⟨0, rfl, H', ⟨Nat.le_refl _⟩, BC, ⟨Below.refl _ _⟩⟩
  case round =>
    clear H' BC
    obtain ⟨x, rfl, HA, HK1, BC, HX⟩ := hrel
    cases gk with
    | zero => exact absurd HA.out (by simp [seenF])
    | succ k1 =>
      have H := HA.out
      clear HA
      simp only [seenF] at H
      by_cases c3 : x < (l.length : Int)
      · rw [if_pos c3] at H
        have d3 : decide (x < (l.length : Int)) = true := decide_eq_true c3
        by_cases c4 : 0 ≤ x
        · rw [if_pos c4] at H
          have d4 : decide (0 ≤ x) = true := decide_eq_true c4
          obtain ⟨ad, e_, hx0, hx1⟩ := at_T86 HR.out x c4 c3
          cases e_
          replace hx0 := (HX.out.cell (World.block_lt_of_cell? w _ hx0)).trans hx0
          replace hx1 := (HX.out.cell (World.block_lt_of_cell? w _ hx1)).trans hx1
          replace c3 := eq_true c3
          replace c4 := eq_true c4
          by_cases c5 : ((rd_T86 l x).f0).toList = key.toList
          · rw [if_pos c5] at H
            have d5 : (((rd_T86 l x).f0).toList == key.toList) = true := beq_iff_eq.mpr c5
            clear c5
            obtain rfl := Option.some.inj H
            go_wp2_with (first | ((with_reducible refine gate_calleeV (q := .tmp 11) rfl ?_); refine goesV_ (some 16) rfl rfl hf (by first | rfl | (go_simp; done)) #[.agg #[.string (rd_T86 l x).f0, .int .i64 (rd_T86 l x).f1]] rfl (by (try simp only [List.map_toArray, List.map_cons, List.map_nil]); first | done | rfl) ?_; (with_reducible refine (seen1.calls g key (rd_T86 l x) _ BC.out).mono ?_); rw [d5]; rintro e w2 ⟨rfl, hb⟩; refine ⟨_, rfl, ?_⟩; have BC2 := Aside0.mk (blk_below BC.out hb); have HX2 := Aside0.mk (below_step HX.out hb); clear hb BC HX; have BC := BC2; have HX := HX2; clear BC2 HX2; clear hx0 hx1))
            go_ret
            exact ⟨rfl, HX.out⟩
          · rw [if_neg c5] at H
            have d5 : (((rd_T86 l x).f0).toList == key.toList) = false := beq_eq_false_iff_ne.mpr c5
            clear c5
            have H' := Aside0.mk H
            clear H
            go_wp2_with (first | ((with_reducible refine gate_calleeV (q := .tmp 11) rfl ?_); refine goesV_ (some 16) rfl rfl hf (by first | rfl | (go_simp; done)) #[.agg #[.string (rd_T86 l x).f0, .int .i64 (rd_T86 l x).f1]] rfl (by (try simp only [List.map_toArray, List.map_cons, List.map_nil]); first | done | rfl) ?_; (with_reducible refine (seen1.calls g key (rd_T86 l x) _ BC.out).mono ?_); rw [d5]; rintro e w2 ⟨rfl, hb⟩; refine ⟨_, rfl, ?_⟩; have BC2 := Aside0.mk (blk_below BC.out hb); have HX2 := Aside0.mk (below_step HX.out hb); clear hb BC HX; have BC := BC2; have HX := HX2; clear BC2 HX2; clear hx0 hx1))
            go_roundg k1
            case measure => have := HK1.out; omega
            case rel => exact ⟨wrap64 (x + 1), rfl, H', ⟨by have := HK1.out; omega⟩, BC, HX⟩
        · rw [if_neg c4] at H
          exact absurd H (by simp)
      · rw [if_neg c3] at H
        have d3 : decide (x < (l.length : Int)) = false := decide_eq_false c3
        clear c3
        obtain rfl := Option.some.inj H
        go_wp2
        go_ret
        exact ⟨rfl, HX.out⟩
structure MS where
  r : List Bool
  N : Int
  s : ByteArray
  room : Int
  v : List Int
  ret : Int
  over : Bool
  st : Int
  lo : Int
  hi : Int
  memo : List S86
structure R3 (w : World) (base : Nat) (Ar : Option Addr) (nr cr : Nat) (r : List Bool) (Av : Option Addr) (nv cv : Nat) (v : List Int) (Am : Option Addr) (nm cm : Nat) (memo : List S86) : Prop where
  row : Kd.R Kd.bool 4 w base (fun _ => True) (.slice Ar nr cr) r
  vals : Kd.R (Kd.int .i64) 3 w base (fun _ => True) (.slice Av nv cv) v
  memo : Kd.Q k86 86 w base (fun _ => True) (.slice Am nm cm) memo
structure IsM (w : World) (base g : Nat) (M : MS) (Ar : Option Addr) (cr : Nat) (Av : Option Addr) (cv : Nat) (Am : Option Addr) (cm : Nat) : Prop where
  blk : w.heap[g]? = some (.cells #[.slice Ar M.r.length cr, .int .i64 M.N, .string M.s, .int .i64 M.room, .slice Av M.v.length cv, .int .i64 M.ret, .bool M.over, .int .i64 M.st, .int .i64 M.lo, .int .i64 M.hi, .slice Am M.memo.length cm] 36 (0, 0))
  rows : R3 w base Ar M.r.length cr M.r Av M.v.length cv M.v Am M.memo.length cm M.memo
  geg : base ≤ g
section
variable {w w1 : World} {base : Nat} {Ar : Option Addr} {nr cr : Nat} {r : List Bool} {Av : Option Addr} {nv cv : Nat} {v : List Int} {Am : Option Addr} {nm cm : Nat} {memo : List S86}
theorem R3.below (h : R3 w base Ar nr cr r Av nv cv v Am nm cm memo) (hb : Below w.heap.size w w1) : R3 w1 base Ar nr cr r Av nv cv v Am nm cm memo := ⟨Kd.R_below h.row hb, Kd.R_below h.vals hb, Kd.Q_below h.memo hb⟩
theorem R3.set (h : R3 w base Ar nr cr r Av nv cv v Am nm cm memo) {g : Nat} {cs : Array Value} (hb : w.heap[g]? = some (.cells cs 36 (0, 0))) (j : Nat) (u : Value) : R3 (w.setCell ⟨g, j, none⟩ u) base Ar nr cr r Av nv cv v Am nm cm memo :=
  ⟨Kd.R_set h.row hb (by decide) j u, Kd.R_set h.vals hb (by decide) j u, Kd.Q_set h.memo hb (by decide) j u⟩
theorem R3.take {m : Nat} (h : R3 w base Ar nr cr r Av nv cv v Am nm cm memo) (hm : m ≤ v.length) : R3 w base Ar nr cr r Av m cv (v.take m) Am nm cm memo := ⟨h.row, Kd.R_take h.vals hm, h.memo⟩
theorem R3.vals_grown {A' : Option Addr} {n' c' : Nat} {vv : List Int} (h : R3 w base Ar nr cr r Av nv cv v Am nm cm memo) (hg : w.grownBy w1 (Value.slice Av nv cv).ownBlock) (ho : Kd.R (Kd.int .i64) 3 w1 base (fun _ => True) (.slice A' n' c') vv) : R3 w1 base Ar nr cr r A' n' c' vv Am nm cm memo :=
  ⟨Kd.R_over' h.row (Kd.R_typed h.vals) (by decide) hg, ho, Kd.Q_over' h.memo (Kd.R_typed h.vals) (by decide) hg⟩
theorem R3.memo_grown {A' : Option Addr} {n' c' : Nat} {vv : List S86} (h : R3 w base Ar nr cr r Av nv cv v Am nm cm memo) (hg : w.grownBy w1 (Value.slice Am nm cm).ownBlock) (ho : Kd.Q k86 86 w1 base (fun _ => True) (.slice A' n' c') vv) : R3 w1 base Ar nr cr r Av nv cv v A' n' c' vv :=
  ⟨Kd.R_over' h.row (Kd.Q_typed h.memo) (by decide) hg, Kd.R_over' h.vals (Kd.Q_typed h.memo) (by decide) hg, ho⟩
end
def IsMx (w : World) (base g : Nat) (M : MS) : Prop := ∃ Ar cr Av cv Am cm, IsM w base g M Ar cr Av cv Am cm
theorem IsM.x {w : World} {base g : Nat} {M : MS} {Ar : Option Addr} {cr : Nat} {Av : Option Addr} {cv : Nat} {Am : Option Addr} {cm : Nat} (h : IsM w base g M Ar cr Av cv Am cm) : IsMx w base g M := ⟨Ar, cr, Av, cv, Am, cm, h⟩
theorem IsMx.below {w w1 : World} {base g : Nat} {M : MS} (h : IsMx w base g M) (hb : Below w.heap.size w w1) : IsMx w1 base g M := by
  obtain ⟨Ar, cr, Av, cv, Am, cm, h⟩ := h
  exact ⟨Ar, cr, Av, cv, Am, cm, blk_below h.blk hb, h.rows.below hb, h.geg⟩
def FrM (g : Nat) (w w' : World) : Prop := ∀ k cs T, k ≠ g → T ≠ 3 → T ≠ 86 → w.heap[k]? = some (.cells cs T (0, 0)) → w'.heap[k]? = some (.cells cs T (0, 0))
theorem FrM.refl (g : Nat) (w : World) : FrM g w w := fun _ _ _ _ _ _ h => h
theorem FrM.trans {g : Nat} {w w1 w2 : World} (h : FrM g w w1) (h2 : FrM g w1 w2) : FrM g w w2 := fun k cs T a b c d => h2 k cs T a b c (h k cs T a b c d)
theorem FrM.of_below {g : Nat} {w w1 : World} (h : Below w.heap.size w w1) : FrM g w w1 := fun k cs T _ _ _ d => blk_below d h
theorem FrM.set {g : Nat} {w w1 : World} (h : FrM g w w1) (j : Nat) (v : Value) : FrM g w (w1.setCell ⟨g, j, none⟩ v) := fun k cs T a b c d => blk_far (h k cs T a b c d) a _
set_option maxHeartbeats 8000000 in
set_option maxRecDepth 100000 in
theorem machine_seen.calls (k : Nat) (base g : Nat) (M : MS) (key : ByteArray) (r : Int) (w : World) (hI : IsMx w base g M) (h : seenF k M.memo key 0 = some r) :
    Calls Try.prog 128 #[.pointer (some ⟨g, 0, none⟩), .string key] w fun e w' => e = .returned (.int .i64 r) ∧ Below w.heap.size w w' := by
  obtain ⟨Ar, cr, Av, cv, Am, cm, hM⟩ := hI
  have BMa := Aside0.mk hM.blk
  have HQ := Aside0.mk (Kd.Q_reads' hM.rows.memo)
  have HS := Aside0.mk h
  have hmf : ∀ (fn_ : Fn) (first_ cap_ : Array Value) (w_ : World), (Instr.makeFunc fn_ first_ cap_).run Try.prog w_ = .ok (.func fn_ first_ cap_) w_ := fun _ _ _ _ => rfl
  clear hM h
  go_enter Try.func128, Try.ntmps128
  go_wp2_with (first | ((with_reducible refine gate_dst (N := 3) rfl ?_); refine box_event ?hg (N := 3) ?hd (cs := #[.string key]) (t := 9) ?hr ?_; (case hd => rfl); (case hg => rfl); (case hr => first | (go_simp; done) | (go_simp; rfl)); intro g3 hg w3 hbox hb; have B3 := Aside0.mk hbox; have HX := Aside0.mk hb; have BMb := Aside0.mk (blk_below BMa.out hb); have hcm10 : w3.cell? ⟨g, 10, none⟩ = some (.slice Am M.memo.length cm) := (blk_cell BMb.out 10).trans rfl; clear hg hbox hb) | ((with_reducible refine gate_callee (f := 134) rfl ?_); (try (refine gate_guard (by rfl) ?_; dsimp only)); refine goesL_ (some 10) rfl rfl Try.func134 (by kernel_rfl) rfl #[.slice Am M.memo.length cm, .func (.func 135) #[] #[.pointer (some ⟨g3, 0, none⟩)]] rfl (by (try simp only [List.map_toArray, List.map_cons, List.map_nil]); first | done | rfl) ?_; (with_reducible refine (indexFunc.calls k Am cm M.memo g3 key r _ (Kd.C_below HQ.out.2.2 HX.out) HQ.out.2.1 B3.out HS.out).mono ?_); rintro e w4 ⟨rfl, hb⟩; refine ⟨_, rfl, ?_⟩; have HX2 := Aside0.mk (below_step HX.out hb); clear hb))
  go_ret
  exact ⟨rfl, HX2.out⟩
def downF (k : Nat) (M : MS) : Option MS :=
  (impl_leftOf.f k M.N M.s M.v).bind fun t => (impl_Table_known.f t.1 t.2).bind fun kn =>
  if 0 ≤ kn then some { M with ret := kn, lo := wrap64 (M.lo + 1) } else
  (impl_Table_key.f k t.1 t.2).bind fun key => (seenF k M.memo key 0).bind fun q =>
  if 0 ≤ q then (if q < (M.memo.length : Int) then some { M with ret := (rd_T86 M.memo q).f1, hi := wrap64 (M.hi + 1) } else none) else
  if M.v.length < 17592186044416 then some { M with v := M.v ++ [0] } else none
set_option maxHeartbeats 8000000 in
set_option maxRecDepth 100000 in
theorem machine_down.calls (k : Nat) (w0 : World) (g : Nat) (M M' : MS) (w : World) (hI : IsMx w w0.heap.size g M) (hB : Below w0.heap.size w0 w) (h : downF k M = some M') :
    Calls Try.prog 116 #[.pointer (some ⟨g, 0, none⟩)] w fun e w' => e = .returned (.tuple #[]) ∧ IsMx w' w0.heap.size g M' ∧ Below w0.heap.size w0 w' ∧ FrM g w w' := by
  obtain ⟨Ar, cr, Av, cv, Am, cm, hM⟩ := hI
  have GE := Aside0.mk hM.geg
  have HB := Aside0.mk hB
  have BM := Aside0.mk (blk_drew hM.blk)
  have HR := Aside0.mk (hM.rows.below (below_drew1 (Below.refl _ _)))
  have HLT := Aside0.mk (blk_lt hM.blk)
  have HB0 := Aside0.mk (below_drew1 (Below.refl w.heap.size w))
  unfold downF at h
  obtain ⟨⟨t1, t2⟩, ht, h⟩ := Option.bind_eq_some_iff.1 h
  obtain ⟨kn, hk, h⟩ := Option.bind_eq_some_iff.1 h
  have HT := Aside0.mk ht
  have HK := Aside0.mk hk
  have HH := Aside0.mk h
  clear ht hk h hM hB
  dsimp only at HK HH
  go_enter Try.func116, Try.ntmps116
  go_upto_region 0 with (fail)
  refine start_ (n := 11) (S := fun w' => w'.cell? ⟨g, 1, none⟩ = some (.int .i64 M.N) ∧ w'.cell? ⟨g, 2, none⟩ = some (.string M.s) ∧ w'.cell? ⟨g, 4, none⟩ = some (.slice Av M.v.length cv)) (ds := [10]) #[false, false, false, false, false, false, false, false, false, false, false] (by kernel_rfl) rfl rfl ⟨(blk_cell BM.out 1).trans rfl, (blk_cell BM.out 2).trans rfl, (blk_cell BM.out 4).trans rfl⟩ (fun hHeld => ?_)
  generalize w.drew = W at BM HR HB0 hHeld ⊢
  have HX := Aside0.mk (Below.refl W.heap.size W)
  have HV := Aside0.mk (Kd.R_reads' HR.out.vals)
  refine pure_ (i := 0) (N := some 5) (v := ?_) (a' := ?_) #[true, false, false, false, false, false, false, false, false, false, false] rfl rfl (by kernel_rfl) (fun _ _ _ h => h) (Or.inl ⟨by rfl, ?_⟩) ?_ ?_
  rotate_left
  · intro w'
    go_simp
    with_reducible rfl
  rotate_left
  · simp only [Act.put, List.setIfInBounds_toArray, List.set_cons_zero, List.set_cons_succ, i64_w, i32_w]
    rfl
  refine pure_ (i := 1) (N := some 6) (v := ?_) (a' := ?_) #[true, true, false, false, false, false, false, false, false, false, false] rfl rfl (by kernel_rfl) (fun _ _ _ h => h) (Or.inl ⟨by rfl, ?_⟩) ?_ ?_
  rotate_left
  · intro w'
    go_simp
    with_reducible rfl
  rotate_left
  · simp only [Act.put, List.setIfInBounds_toArray, List.set_cons_zero, List.set_cons_succ, i64_w, i32_w]
    rfl
  refine pure_ (i := 2) (N := some 7) (v := ?_) (a' := ?_) #[true, true, true, false, false, false, false, false, false, false, false] rfl rfl (by kernel_rfl) (fun _ _ _ h => h) (Or.inl ⟨by rfl, ?_⟩) ?_ ?_
  rotate_left
  · intro w'
    go_simp
    with_reducible rfl
  rotate_left
  · simp only [Act.put, List.setIfInBounds_toArray, List.set_cons_zero, List.set_cons_succ, i64_w, i32_w]
    rfl
  refine pure_ (i := 4) (N := some 9) (v := ?_) (a' := ?_) #[true, true, true, false, true, false, false, false, false, false, false] rfl rfl (by kernel_rfl) (fun _ _ _ h => h) (Or.inl ⟨by rfl, ?_⟩) ?_ ?_
  rotate_left
  · intro w'
    go_simp
    with_reducible rfl
  rotate_left
  · simp only [Act.put, List.setIfInBounds_toArray, List.set_cons_zero, List.set_cons_succ, i64_w, i32_w]
    rfl
  refine pure_ (i := 5) (N := some 10) (v := ?_) (a' := ?_) #[true, true, true, false, true, true, false, false, false, false, false] rfl rfl (by kernel_rfl) (fun _ _ _ h => h) (Or.inl ⟨by rfl, ?_⟩) ?_ ?_
  rotate_left
  · intro w'
    go_simp
    with_reducible rfl
  rotate_left
  · simp only [Act.put, List.setIfInBounds_toArray, List.set_cons_zero, List.set_cons_succ, i64_w, i32_w]
    rfl
  refine pure_ (i := 6) (N := some 11) (v := ?_) (a' := ?_) #[true, true, true, false, true, true, true, false, false, false, false] rfl rfl (by kernel_rfl) (fun _ _ _ h => h) (Or.inl ⟨by rfl, ?_⟩) ?_ ?_
  rotate_left
  · intro w'
    go_simp
    with_reducible rfl
  rotate_left
  · simp only [Act.put, List.setIfInBounds_toArray, List.set_cons_zero, List.set_cons_succ, i64_w, i32_w]
    rfl
  refine take_ (i := 3) (N := some 8) (v := ?_) (a' := ?_) #[true, true, true, true, true, true, true, false, false, false, false] rfl rfl (by kernel_rfl) (fun _ _ _ h => h) (Or.inl ⟨by rfl, ?_⟩) hHeld ?_ ?_
  rotate_left
  · rintro w' ⟨s0, s1, s2⟩
    go_simp
    with_reducible rfl
  rotate_left
  · simp only [Act.put, List.setIfInBounds_toArray, List.set_cons_zero, List.set_cons_succ, i64_w, i32_w]
    rfl
  refine take_ (i := 7) (N := some 12) (v := ?_) (a' := ?_) #[true, true, true, true, true, true, true, true, false, false, false] rfl rfl (by kernel_rfl) (fun _ _ _ h => h) (Or.inl ⟨by rfl, ?_⟩) hHeld ?_ ?_
  rotate_left
  · rintro w' ⟨s0, s1, s2⟩
    go_simp
    with_reducible rfl
  rotate_left
  · simp only [Act.put, List.setIfInBounds_toArray, List.set_cons_zero, List.set_cons_succ, i64_w, i32_w]
    rfl
  refine join_ (σ := Nat) 1 #[true, true, true, true, true, true, true, true, true, true, false] (fun s_ => [(13, .agg #[.int .i64 t1, .string t2]), (2, .pointer (some ⟨s_, 0, none⟩))]) (fun s_ w' => w'.heap[g]? = some (.cells #[.slice Ar M.r.length cr, .int .i64 M.N, .string M.s, .int .i64 M.room, .slice Av M.v.length cv, .int .i64 M.ret, .bool M.over, .int .i64 M.st, .int .i64 M.lo, .int .i64 M.hi, .slice Am M.memo.length cm] 36 (0, 0)) ∧ w'.heap[s_]? = some (.cells #[.int .i64 0, .string (⟨#[]⟩ : ByteArray)] 29 (0, 0)) ∧ W.heap.size ≤ s_ ∧ Below W.heap.size W w') ?_ ?_
  rotate_left
  · intro hCont
    refine two_ (i := 8) (j := 9) (Ni := some 13) (Nj := some 2) #[true, true, true, true, true, true, true, true, true, false, false] #[true, true, true, true, true, true, true, true, false, true, false] rfl rfl rfl rfl (by kernel_rfl) (by decide) (by decide) (fun K hK => ?_) (fun K hK => ?_)
    · skip
      refine goes_ Try.func80 (by kernel_rfl) rfl #[.agg #[.int .i64 M.N, .string M.s], .slice Av M.v.length cv] (by rfl) rfl rfl (by simp only [List.map_toArray, List.map_cons, List.map_nil]; rfl) ?_
      with_reducible refine (impl_leftOf.calls k M.N M.s Av cv M.v t1 t2 _ (Kd.C_below HV.out.2.2 HX.out) HV.out.2.1 HT.out).mono ?_
      rintro e wq ⟨rfl, hb⟩
      refine ⟨_, rfl, ?_⟩
      have n0_ := Aside0.mk (below_step HX.out hb)
      clear HX
      have HX := n0_
      clear n0_
      have n0_ := Aside0.mk (blk_below BM.out hb)
      clear BM
      have BM := n0_
      clear n0_
      clear hb
      refine hK.out _ _ ⟨(blk_cell BM.out 1).trans rfl, (blk_cell BM.out 2).trans rfl, (blk_cell BM.out 4).trans rfl⟩ (fun hHeld => ?_)
      clear hK K
      refine norm_ (a' := ?_) ?_ ?_
      rotate_left
      · show Act.put _ (some 13) _ = _
        simp only [Act.put, List.setIfInBounds_toArray, List.set_cons_zero, List.set_cons_succ, i64_w, i32_w]
        rfl
      refine one_ (i := 9) (N := some 2) #[true, true, true, true, true, true, true, true, true, true, false] rfl rfl (by kernel_rfl) (by decide) (fun K hK => ?_)
      refine box_step ?hg (N := 2) ?hd (cs := #[.int .i64 0, .string (⟨#[]⟩ : ByteArray)]) (t := 29) ?hr ?_; (case hd => rfl); (case hg => rfl); (case hr => first | (go_simp; done) | (go_simp; rfl))
      intro g2 hg wq hbox hb
      have G2 := Aside0.mk (show W.heap.size ≤ g2 by rw [hg]; exact HX.out.size)
      have n0_ := Aside0.mk (below_step HX.out hb)
      clear HX
      have HX := n0_
      clear n0_
      have n0_ := Aside0.mk (blk_below BM.out hb)
      clear BM
      have BM := n0_
      clear n0_
      have B2 := Aside0.mk hbox
      clear hg hbox hb
      refine hK.out _ _ ⟨(blk_cell BM.out 1).trans rfl, (blk_cell BM.out 2).trans rfl, (blk_cell BM.out 4).trans rfl⟩ (fun hHeld => ?_)
      clear hK K
      refine norm_ (a' := ?_) ?_ ?_
      rotate_left
      · show Act.put _ (some 2) _ = _
        simp only [Act.put, List.setIfInBounds_toArray, List.set_cons_zero, List.set_cons_succ, i64_w, i32_w]
        rfl
      exact norm_ (by simp only [putAll, Act.put, List.setIfInBounds_toArray, List.set_cons_zero, List.set_cons_succ]) (hCont g2 _ ⟨BM.out, B2.out, G2.out, HX.out⟩)
    · skip
      refine box_step ?hg (N := 2) ?hd (cs := #[.int .i64 0, .string (⟨#[]⟩ : ByteArray)]) (t := 29) ?hr ?_; (case hd => rfl); (case hg => rfl); (case hr => first | (go_simp; done) | (go_simp; rfl))
      intro g2 hg wq hbox hb
      have G2 := Aside0.mk (show W.heap.size ≤ g2 by rw [hg]; exact HX.out.size)
      have n0_ := Aside0.mk (below_step HX.out hb)
      clear HX
      have HX := n0_
      clear n0_
      have n0_ := Aside0.mk (blk_below BM.out hb)
      clear BM
      have BM := n0_
      clear n0_
      have B2 := Aside0.mk hbox
      clear hg hbox hb
      refine hK.out _ _ ⟨(blk_cell BM.out 1).trans rfl, (blk_cell BM.out 2).trans rfl, (blk_cell BM.out 4).trans rfl⟩ (fun hHeld => ?_)
      clear hK K
      refine norm_ (a' := ?_) ?_ ?_
      rotate_left
      · show Act.put _ (some 2) _ = _
        simp only [Act.put, List.setIfInBounds_toArray, List.set_cons_zero, List.set_cons_succ, i64_w, i32_w]
        rfl
      refine one_ (i := 8) (N := some 13) #[true, true, true, true, true, true, true, true, true, true, false] rfl rfl (by kernel_rfl) (by decide) (fun K hK => ?_)
      refine goes_ Try.func80 (by kernel_rfl) rfl #[.agg #[.int .i64 M.N, .string M.s], .slice Av M.v.length cv] (by rfl) rfl rfl (by simp only [List.map_toArray, List.map_cons, List.map_nil]; rfl) ?_
      with_reducible refine (impl_leftOf.calls k M.N M.s Av cv M.v t1 t2 _ (Kd.C_below HV.out.2.2 HX.out) HV.out.2.1 HT.out).mono ?_
      rintro e wq ⟨rfl, hb⟩
      refine ⟨_, rfl, ?_⟩
      have n0_ := Aside0.mk (below_step HX.out hb)
      clear HX
      have HX := n0_
      clear n0_
      have n0_ := Aside0.mk (blk_below BM.out hb)
      clear BM
      have BM := n0_
      clear n0_
      have n0_ := Aside0.mk (blk_below B2.out hb)
      clear B2
      have B2 := n0_
      clear n0_
      clear hb
      refine hK.out _ _ ⟨(blk_cell BM.out 1).trans rfl, (blk_cell BM.out 2).trans rfl, (blk_cell BM.out 4).trans rfl⟩ (fun hHeld => ?_)
      clear hK K
      refine norm_ (a' := ?_) ?_ ?_
      rotate_left
      · show Act.put _ (some 13) _ = _
        simp only [Act.put, List.setIfInBounds_toArray, List.set_cons_zero, List.set_cons_succ, i64_w, i32_w]
        rfl
      exact norm_ (by simp only [putAll, Act.put, List.setIfInBounds_toArray, List.set_cons_zero, List.set_cons_succ]) (hCont g2 _ ⟨BM.out, B2.out, G2.out, HX.out⟩)
  rintro g2 w7 ⟨hbm, hb2, hg2, hbx⟩
  have hHeld : w7.cell? ⟨g, 1, none⟩ = some (.int .i64 M.N) ∧ w7.cell? ⟨g, 2, none⟩ = some (.string M.s) ∧ w7.cell? ⟨g, 4, none⟩ = some (.slice Av M.v.length cv) := ⟨(blk_cell hbm 1).trans rfl, (blk_cell hbm 2).trans rfl, (blk_cell hbm 4).trans rfl⟩
  have BM := Aside0.mk hbm
  have B2 := Aside0.mk hb2
  have G2 := Aside0.mk hg2
  have HX := Aside0.mk hbx
  clear hbm hb2 hg2 hbx
  refine norm_ (a' := ?_) ?_ ?_
  rotate_left
  · simp only [putAll, Act.put, List.setIfInBounds_toArray, List.set_cons_zero, List.set_cons_succ]
    rfl
  refine last_ (i := 10) (N := none) #[true, true, true, true, true, true, true, true, true, true, true] rfl rfl (by kernel_rfl) (by decide) (fun K hK => ?_)
  have hs0 : w7.cell? ⟨g2, 0, none⟩ = some (.int .i64 0) := (blk_cell B2.out 0).trans rfl
  have hs1 : w7.cell? ⟨g2, 1, none⟩ = some (.string (⟨#[]⟩ : ByteArray)) := (blk_cell B2.out 1).trans rfl
  have hf0 := blk_frozen B2.out 0
  have hf1 := blk_frozen B2.out 1
  refine skip_ (w1 := ?_) (by rfl) rfl ?_ ?_
  rotate_left
  · go_simp
    rfl
  clear hs0 hs1 hf0 hf1
  refine hK.out _ _ ?_
  clear hK K
  refine done_ (by kernel_rfl) ?_

  clear hHeld
  have NE : Aside0 (g ≠ g2) := ⟨by have := G2.out; have := HLT.out; have := HB0.out.size; omega⟩
  have B2a : Aside0 (((w7.setCell ⟨g2, 0, none⟩ (.int .i64 t1)).setCell ⟨g2, 1, none⟩ (.string t2)).heap[g2]? = some (.cells #[.int .i64 t1, .string t2] 29 (0, 0))) := ⟨blk_put (cs := #[.int .i64 t1, .string (⟨#[]⟩ : ByteArray)]) (blk_put (cs := #[.int .i64 0, .string (⟨#[]⟩ : ByteArray)]) B2.out 0 _ rfl) 1 _ rfl⟩
  have BMa : Aside0 (((w7.setCell ⟨g2, 0, none⟩ (.int .i64 t1)).setCell ⟨g2, 1, none⟩ (.string t2)).heap[g]? = some (.cells #[.slice Ar M.r.length cr, .int .i64 M.N, .string M.s, .int .i64 M.room, .slice Av M.v.length cv, .int .i64 M.ret, .bool M.over, .int .i64 M.st, .int .i64 M.lo, .int .i64 M.hi, .slice Am M.memo.length cm] 36 (0, 0))) := ⟨blk_far (blk_far BM.out NE.out _) NE.out _⟩
  have HX8 : Aside0 (Below w.heap.size w ((w7.setCell ⟨g2, 0, none⟩ (.int .i64 t1)).setCell ⟨g2, 1, none⟩ (.string t2))) := ⟨below_set (below_set (below_step HB0.out HX.out) (Nat.le_trans HB0.out.size G2.out)) (Nat.le_trans HB0.out.size G2.out)⟩
  have HXW : Aside0 (Below W.heap.size W ((w7.setCell ⟨g2, 0, none⟩ (.int .i64 t1)).setCell ⟨g2, 1, none⟩ (.string t2))) := ⟨below_set (below_set HX.out G2.out) G2.out⟩
  have R3a := Aside0.mk (HR.out.below HXW.out)
  have HBa := Aside0.mk (below_step HB.out HX8.out)
  have FRa : Aside0 (FrM g w ((w7.setCell ⟨g2, 0, none⟩ (.int .i64 t1)).setCell ⟨g2, 1, none⟩ (.string t2))) := ⟨FrM.of_below HX8.out⟩
  clear HX8 HXW BM B2 HX HV HR HB HB0 HLT
  generalize ((w7.setCell ⟨g2, 0, none⟩ (.int .i64 t1)).setCell ⟨g2, 1, none⟩ (.string t2)) = w8 at B2a BMa R3a HBa FRa ⊢
  have hcm0 : w8.cell? ⟨g, 0, none⟩ = some (.slice Ar M.r.length cr) := (blk_cell BMa.out 0).trans rfl
  have hcm1 : w8.cell? ⟨g, 1, none⟩ = some (.int .i64 M.N) := (blk_cell BMa.out 1).trans rfl
  have hcm2 : w8.cell? ⟨g, 2, none⟩ = some (.string M.s) := (blk_cell BMa.out 2).trans rfl
  have hcm3 : w8.cell? ⟨g, 3, none⟩ = some (.int .i64 M.room) := (blk_cell BMa.out 3).trans rfl
  have hcm4 : w8.cell? ⟨g, 4, none⟩ = some (.slice Av M.v.length cv) := (blk_cell BMa.out 4).trans rfl
  have hcm5 : w8.cell? ⟨g, 5, none⟩ = some (.int .i64 M.ret) := (blk_cell BMa.out 5).trans rfl
  have hcm6 : w8.cell? ⟨g, 6, none⟩ = some (.bool M.over) := (blk_cell BMa.out 6).trans rfl
  have hcm7 : w8.cell? ⟨g, 7, none⟩ = some (.int .i64 M.st) := (blk_cell BMa.out 7).trans rfl
  have hcm8 : w8.cell? ⟨g, 8, none⟩ = some (.int .i64 M.lo) := (blk_cell BMa.out 8).trans rfl
  have hcm9 : w8.cell? ⟨g, 9, none⟩ = some (.int .i64 M.hi) := (blk_cell BMa.out 9).trans rfl
  have hcm10 : w8.cell? ⟨g, 10, none⟩ = some (.slice Am M.memo.length cm) := (blk_cell BMa.out 10).trans rfl
  have hfm4 := blk_frozen BMa.out 4
  have hfm5 := blk_frozen BMa.out 5
  have hfm8 := blk_frozen BMa.out 8
  have hfm9 := blk_frozen BMa.out 9
  have hc20 : w8.cell? ⟨g2, 0, none⟩ = some (.int .i64 t1) := (blk_cell B2a.out 0).trans rfl
  have hc21 : w8.cell? ⟨g2, 1, none⟩ = some (.string t2) := (blk_cell B2a.out 1).trans rfl
  have h := HH.out
  clear HH
  by_cases c1 : 0 ≤ kn
  · rw [if_pos c1] at h
    obtain rfl := Option.some.inj h
    have dk : decide (0 ≤ kn) = true := decide_eq_true c1
    clear c1 h
    go_wp2_with (first | ((with_reducible refine gate_callee (f := 107) rfl ?_); (try (refine gate_guard (by rfl) ?_; dsimp only)); refine goesL_ (some 15) rfl rfl Try.func107 (by kernel_rfl) rfl #[.agg #[.int .i64 t1, .string t2]] rfl (by (try simp only [List.map_toArray, List.map_cons, List.map_nil]); first | done | rfl) ?_; (with_reducible refine (impl_Table_known.calls t1 t2 kn _ HK.out).mono ?_); rintro e w9 ⟨rfl, hb⟩; refine ⟨_, rfl, ?_⟩; have HXX := Aside0.mk hb; have R3b := Aside0.mk (R3a.out.below HXX.out); have HBb := Aside0.mk (below_step HBa.out HXX.out); have BMb := Aside0.mk (blk_below BMa.out HXX.out); have B2b := Aside0.mk (blk_below B2a.out HXX.out); have FRb := Aside0.mk (FRa.out.trans (FrM.of_below HXX.out)); clear HXX hb; clear hcm0 hcm1 hcm2 hcm3 hcm4 hcm5 hcm6 hcm7 hcm8 hcm9 hcm10 hfm4 hfm5 hfm8 hfm9 hc20 hc21; clear R3a HBa BMa B2a FRa; have hcm0 : w9.cell? ⟨g, 0, none⟩ = some (.slice Ar M.r.length cr) := (blk_cell BMb.out 0).trans rfl; have hcm1 : w9.cell? ⟨g, 1, none⟩ = some (.int .i64 M.N) := (blk_cell BMb.out 1).trans rfl; have hcm2 : w9.cell? ⟨g, 2, none⟩ = some (.string M.s) := (blk_cell BMb.out 2).trans rfl; have hcm3 : w9.cell? ⟨g, 3, none⟩ = some (.int .i64 M.room) := (blk_cell BMb.out 3).trans rfl; have hcm4 : w9.cell? ⟨g, 4, none⟩ = some (.slice Av M.v.length cv) := (blk_cell BMb.out 4).trans rfl; have hcm5 : w9.cell? ⟨g, 5, none⟩ = some (.int .i64 M.ret) := (blk_cell BMb.out 5).trans rfl; have hcm6 : w9.cell? ⟨g, 6, none⟩ = some (.bool M.over) := (blk_cell BMb.out 6).trans rfl; have hcm7 : w9.cell? ⟨g, 7, none⟩ = some (.int .i64 M.st) := (blk_cell BMb.out 7).trans rfl; have hcm8 : w9.cell? ⟨g, 8, none⟩ = some (.int .i64 M.lo) := (blk_cell BMb.out 8).trans rfl; have hcm9 : w9.cell? ⟨g, 9, none⟩ = some (.int .i64 M.hi) := (blk_cell BMb.out 9).trans rfl; have hcm10 : w9.cell? ⟨g, 10, none⟩ = some (.slice Am M.memo.length cm) := (blk_cell BMb.out 10).trans rfl; have hfm4 := blk_frozen BMb.out 4; have hfm5 := blk_frozen BMb.out 5; have hfm8 := blk_frozen BMb.out 8; have hfm9 := blk_frozen BMb.out 9; have hc20 : w9.cell? ⟨g2, 0, none⟩ = some (.int .i64 t1) := (blk_cell B2b.out 0).trans rfl; have hc21 : w9.cell? ⟨g2, 1, none⟩ = some (.string t2) := (blk_cell B2b.out 1).trans rfl))
    refine bodyPost_ret (results_none rfl _ _ _) rfl ?_
    have BMx0 : Aside0 ((w9.setCell ⟨g, 5, none⟩ (.int .i64 kn)).heap[g]? = some (.cells #[.slice Ar M.r.length cr, .int .i64 M.N, .string M.s, .int .i64 M.room, .slice Av M.v.length cv, .int .i64 kn, .bool M.over, .int .i64 M.st, .int .i64 M.lo, .int .i64 M.hi, .slice Am M.memo.length cm] 36 (0, 0))) := ⟨blk_put (cs := #[.slice Ar M.r.length cr, .int .i64 M.N, .string M.s, .int .i64 M.room, .slice Av M.v.length cv, .int .i64 M.ret, .bool M.over, .int .i64 M.st, .int .i64 M.lo, .int .i64 M.hi, .slice Am M.memo.length cm]) BMb.out 5 _ rfl⟩
    have R3x0 := Aside0.mk (R3b.out.set BMb.out 5 (.int .i64 kn))
    have FRx0 := Aside0.mk (FRb.out.set 5 (.int .i64 kn))
    have HBx0 := Aside0.mk (below_set (j := 5) (v := (.int .i64 kn)) HBb.out GE.out)
    have BMx1 : Aside0 (((w9.setCell ⟨g, 5, none⟩ (.int .i64 kn)).setCell ⟨g, 8, none⟩ (.int .i64 (wrap64 (M.lo + 1)))).heap[g]? = some (.cells #[.slice Ar M.r.length cr, .int .i64 M.N, .string M.s, .int .i64 M.room, .slice Av M.v.length cv, .int .i64 kn, .bool M.over, .int .i64 M.st, .int .i64 (wrap64 (M.lo + 1)), .int .i64 M.hi, .slice Am M.memo.length cm] 36 (0, 0))) := ⟨blk_put (cs := #[.slice Ar M.r.length cr, .int .i64 M.N, .string M.s, .int .i64 M.room, .slice Av M.v.length cv, .int .i64 kn, .bool M.over, .int .i64 M.st, .int .i64 M.lo, .int .i64 M.hi, .slice Am M.memo.length cm]) BMx0.out 8 _ rfl⟩
    have R3x1 := Aside0.mk (R3x0.out.set BMx0.out 8 (.int .i64 (wrap64 (M.lo + 1))))
    have FRx1 := Aside0.mk (FRx0.out.set 8 (.int .i64 (wrap64 (M.lo + 1))))
    have HBx1 := Aside0.mk (below_set (j := 8) (v := (.int .i64 (wrap64 (M.lo + 1)))) HBx0.out GE.out)
    exact ⟨rfl, ⟨_, _, _, _, _, _, BMx1.out, R3x1.out, GE.out⟩, HBx1.out, FRx1.out⟩
  rw [if_neg c1] at h
  have dk : decide (0 ≤ kn) = false := decide_eq_false c1
  clear c1
  obtain ⟨key, hy, h⟩ := Option.bind_eq_some_iff.1 h
  obtain ⟨q, hq, h⟩ := Option.bind_eq_some_iff.1 h
  have HY := Aside0.mk hy
  have HQ := Aside0.mk hq
  clear hy hq
  by_cases c2 : 0 ≤ q
  · rw [if_pos c2] at h
    have dq : decide (0 ≤ q) = true := decide_eq_true c2
    by_cases c3 : q < (M.memo.length : Int)
    case neg => rw [if_neg c3] at h; cases h
    rw [if_pos c3] at h
    obtain rfl := Option.some.inj h
    clear h
    have C2 := Aside0.mk c2
    have C3 := Aside0.mk c3
    have dq3 : decide (q < (M.memo.length : Int)) = true := decide_eq_true c3
    replace c2 := eq_true c2
    replace c3 := eq_true c3
    obtain ⟨ad, e_, hx0, hx1⟩ := at_T86 (Kd.Q_reads' R3a.out.memo).2.2 q C2.out C3.out
    cases e_
    go_wp2_with (first | ((with_reducible refine gate_callee (f := 107) rfl ?_); (try (refine gate_guard (by rfl) ?_; dsimp only)); refine goesL_ (some 15) rfl rfl Try.func107 (by kernel_rfl) rfl #[.agg #[.int .i64 t1, .string t2]] rfl (by (try simp only [List.map_toArray, List.map_cons, List.map_nil]); first | done | rfl) ?_; (with_reducible refine (impl_Table_known.calls t1 t2 kn _ HK.out).mono ?_); rintro e w9 ⟨rfl, hb⟩; refine ⟨_, rfl, ?_⟩; have HXX := Aside0.mk hb; have R3b := Aside0.mk (R3a.out.below HXX.out); have HBb := Aside0.mk (below_step HBa.out HXX.out); have BMb := Aside0.mk (blk_below BMa.out HXX.out); have B2b := Aside0.mk (blk_below B2a.out HXX.out); have FRb := Aside0.mk (FRa.out.trans (FrM.of_below HXX.out)); have hx2_ := (HXX.out.cell (World.block_lt_of_cell? _ _ hx0)).trans hx0; have hx3_ := (HXX.out.cell (World.block_lt_of_cell? _ _ hx1)).trans hx1; clear hx0 hx1; have hx0 := hx2_; have hx1 := hx3_; clear hx2_ hx3_; clear HXX hb; clear hcm0 hcm1 hcm2 hcm3 hcm4 hcm5 hcm6 hcm7 hcm8 hcm9 hcm10 hfm4 hfm5 hfm8 hfm9 hc20 hc21; clear R3a HBa BMa B2a FRa; have hcm0 : w9.cell? ⟨g, 0, none⟩ = some (.slice Ar M.r.length cr) := (blk_cell BMb.out 0).trans rfl; have hcm1 : w9.cell? ⟨g, 1, none⟩ = some (.int .i64 M.N) := (blk_cell BMb.out 1).trans rfl; have hcm2 : w9.cell? ⟨g, 2, none⟩ = some (.string M.s) := (blk_cell BMb.out 2).trans rfl; have hcm3 : w9.cell? ⟨g, 3, none⟩ = some (.int .i64 M.room) := (blk_cell BMb.out 3).trans rfl; have hcm4 : w9.cell? ⟨g, 4, none⟩ = some (.slice Av M.v.length cv) := (blk_cell BMb.out 4).trans rfl; have hcm5 : w9.cell? ⟨g, 5, none⟩ = some (.int .i64 M.ret) := (blk_cell BMb.out 5).trans rfl; have hcm6 : w9.cell? ⟨g, 6, none⟩ = some (.bool M.over) := (blk_cell BMb.out 6).trans rfl; have hcm7 : w9.cell? ⟨g, 7, none⟩ = some (.int .i64 M.st) := (blk_cell BMb.out 7).trans rfl; have hcm8 : w9.cell? ⟨g, 8, none⟩ = some (.int .i64 M.lo) := (blk_cell BMb.out 8).trans rfl; have hcm9 : w9.cell? ⟨g, 9, none⟩ = some (.int .i64 M.hi) := (blk_cell BMb.out 9).trans rfl; have hcm10 : w9.cell? ⟨g, 10, none⟩ = some (.slice (some ad) M.memo.length cm) := (blk_cell BMb.out 10).trans rfl; have hfm4 := blk_frozen BMb.out 4; have hfm5 := blk_frozen BMb.out 5; have hfm8 := blk_frozen BMb.out 8; have hfm9 := blk_frozen BMb.out 9; have hc20 : w9.cell? ⟨g2, 0, none⟩ = some (.int .i64 t1) := (blk_cell B2b.out 0).trans rfl; have hc21 : w9.cell? ⟨g2, 1, none⟩ = some (.string t2) := (blk_cell B2b.out 1).trans rfl) | ((with_reducible refine gate_callee (f := 129) rfl ?_); (try (refine gate_guard (by rfl) ?_; dsimp only)); refine goesL_ (some 31) rfl rfl Try.func129 (by kernel_rfl) rfl #[.agg #[.int .i64 t1, .string t2]] rfl (by (try simp only [List.map_toArray, List.map_cons, List.map_nil]); first | done | rfl) ?_; (with_reducible refine (impl_Table_key.calls k t1 t2 key _ HY.out).mono ?_); rintro e w10 ⟨rfl, hb⟩; refine ⟨_, rfl, ?_⟩; have HXX := Aside0.mk hb; have R3c := Aside0.mk (R3b.out.below HXX.out); have HBc := Aside0.mk (below_step HBb.out HXX.out); have BMc := Aside0.mk (blk_below BMb.out HXX.out); have B2c := Aside0.mk (blk_below B2b.out HXX.out); have FRc := Aside0.mk (FRb.out.trans (FrM.of_below HXX.out)); have hx2_ := (HXX.out.cell (World.block_lt_of_cell? _ _ hx0)).trans hx0; have hx3_ := (HXX.out.cell (World.block_lt_of_cell? _ _ hx1)).trans hx1; clear hx0 hx1; have hx0 := hx2_; have hx1 := hx3_; clear hx2_ hx3_; clear HXX hb; clear hcm0 hcm1 hcm2 hcm3 hcm4 hcm5 hcm6 hcm7 hcm8 hcm9 hcm10 hfm4 hfm5 hfm8 hfm9 hc20 hc21; clear R3b HBb BMb B2b FRb; have hcm0 : w10.cell? ⟨g, 0, none⟩ = some (.slice Ar M.r.length cr) := (blk_cell BMc.out 0).trans rfl; have hcm1 : w10.cell? ⟨g, 1, none⟩ = some (.int .i64 M.N) := (blk_cell BMc.out 1).trans rfl; have hcm2 : w10.cell? ⟨g, 2, none⟩ = some (.string M.s) := (blk_cell BMc.out 2).trans rfl; have hcm3 : w10.cell? ⟨g, 3, none⟩ = some (.int .i64 M.room) := (blk_cell BMc.out 3).trans rfl; have hcm4 : w10.cell? ⟨g, 4, none⟩ = some (.slice Av M.v.length cv) := (blk_cell BMc.out 4).trans rfl; have hcm5 : w10.cell? ⟨g, 5, none⟩ = some (.int .i64 M.ret) := (blk_cell BMc.out 5).trans rfl; have hcm6 : w10.cell? ⟨g, 6, none⟩ = some (.bool M.over) := (blk_cell BMc.out 6).trans rfl; have hcm7 : w10.cell? ⟨g, 7, none⟩ = some (.int .i64 M.st) := (blk_cell BMc.out 7).trans rfl; have hcm8 : w10.cell? ⟨g, 8, none⟩ = some (.int .i64 M.lo) := (blk_cell BMc.out 8).trans rfl; have hcm9 : w10.cell? ⟨g, 9, none⟩ = some (.int .i64 M.hi) := (blk_cell BMc.out 9).trans rfl; have hcm10 : w10.cell? ⟨g, 10, none⟩ = some (.slice (some ad) M.memo.length cm) := (blk_cell BMc.out 10).trans rfl; have hfm4 := blk_frozen BMc.out 4; have hfm5 := blk_frozen BMc.out 5; have hfm8 := blk_frozen BMc.out 8; have hfm9 := blk_frozen BMc.out 9; have hc20 : w10.cell? ⟨g2, 0, none⟩ = some (.int .i64 t1) := (blk_cell B2c.out 0).trans rfl; have hc21 : w10.cell? ⟨g2, 1, none⟩ = some (.string t2) := (blk_cell B2c.out 1).trans rfl) | ((with_reducible refine gate_callee (f := 128) rfl ?_); (try (refine gate_guard (by rfl) ?_; dsimp only)); refine goesL_ (some 32) rfl rfl Try.func128 (by kernel_rfl) rfl #[.pointer (some ⟨g, 0, none⟩), .string key] rfl (by (try simp only [List.map_toArray, List.map_cons, List.map_nil]); first | done | rfl) ?_; (with_reducible refine (machine_seen.calls k w0.heap.size g M key q _ (IsM.x ⟨BMc.out, R3c.out, GE.out⟩) HQ.out).mono ?_); rintro e w11 ⟨rfl, hb⟩; refine ⟨_, rfl, ?_⟩; have HXX := Aside0.mk hb; have R3d := Aside0.mk (R3c.out.below HXX.out); have HBd := Aside0.mk (below_step HBc.out HXX.out); have BMd := Aside0.mk (blk_below BMc.out HXX.out); have B2d := Aside0.mk (blk_below B2c.out HXX.out); have FRd := Aside0.mk (FRc.out.trans (FrM.of_below HXX.out)); have hx2_ := (HXX.out.cell (World.block_lt_of_cell? _ _ hx0)).trans hx0; have hx3_ := (HXX.out.cell (World.block_lt_of_cell? _ _ hx1)).trans hx1; clear hx0 hx1; have hx0 := hx2_; have hx1 := hx3_; clear hx2_ hx3_; clear HXX hb; clear hcm0 hcm1 hcm2 hcm3 hcm4 hcm5 hcm6 hcm7 hcm8 hcm9 hcm10 hfm4 hfm5 hfm8 hfm9 hc20 hc21; clear R3c HBc BMc B2c FRc; have hcm0 : w11.cell? ⟨g, 0, none⟩ = some (.slice Ar M.r.length cr) := (blk_cell BMd.out 0).trans rfl; have hcm1 : w11.cell? ⟨g, 1, none⟩ = some (.int .i64 M.N) := (blk_cell BMd.out 1).trans rfl; have hcm2 : w11.cell? ⟨g, 2, none⟩ = some (.string M.s) := (blk_cell BMd.out 2).trans rfl; have hcm3 : w11.cell? ⟨g, 3, none⟩ = some (.int .i64 M.room) := (blk_cell BMd.out 3).trans rfl; have hcm4 : w11.cell? ⟨g, 4, none⟩ = some (.slice Av M.v.length cv) := (blk_cell BMd.out 4).trans rfl; have hcm5 : w11.cell? ⟨g, 5, none⟩ = some (.int .i64 M.ret) := (blk_cell BMd.out 5).trans rfl; have hcm6 : w11.cell? ⟨g, 6, none⟩ = some (.bool M.over) := (blk_cell BMd.out 6).trans rfl; have hcm7 : w11.cell? ⟨g, 7, none⟩ = some (.int .i64 M.st) := (blk_cell BMd.out 7).trans rfl; have hcm8 : w11.cell? ⟨g, 8, none⟩ = some (.int .i64 M.lo) := (blk_cell BMd.out 8).trans rfl; have hcm9 : w11.cell? ⟨g, 9, none⟩ = some (.int .i64 M.hi) := (blk_cell BMd.out 9).trans rfl; have hcm10 : w11.cell? ⟨g, 10, none⟩ = some (.slice (some ad) M.memo.length cm) := (blk_cell BMd.out 10).trans rfl; have hfm4 := blk_frozen BMd.out 4; have hfm5 := blk_frozen BMd.out 5; have hfm8 := blk_frozen BMd.out 8; have hfm9 := blk_frozen BMd.out 9; have hc20 : w11.cell? ⟨g2, 0, none⟩ = some (.int .i64 t1) := (blk_cell B2d.out 0).trans rfl; have hc21 : w11.cell? ⟨g2, 1, none⟩ = some (.string t2) := (blk_cell B2d.out 1).trans rfl))
    refine bodyPost_ret (results_none rfl _ _ _) rfl ?_
    have BMx0 : Aside0 ((w11.setCell ⟨g, 5, none⟩ (.int .i64 (rd_T86 M.memo q).f1)).heap[g]? = some (.cells #[.slice Ar M.r.length cr, .int .i64 M.N, .string M.s, .int .i64 M.room, .slice Av M.v.length cv, .int .i64 (rd_T86 M.memo q).f1, .bool M.over, .int .i64 M.st, .int .i64 M.lo, .int .i64 M.hi, .slice (some ad) M.memo.length cm] 36 (0, 0))) := ⟨blk_put (cs := #[.slice Ar M.r.length cr, .int .i64 M.N, .string M.s, .int .i64 M.room, .slice Av M.v.length cv, .int .i64 M.ret, .bool M.over, .int .i64 M.st, .int .i64 M.lo, .int .i64 M.hi, .slice (some ad) M.memo.length cm]) BMd.out 5 _ rfl⟩
    have R3x0 := Aside0.mk (R3d.out.set BMd.out 5 (.int .i64 (rd_T86 M.memo q).f1))
    have FRx0 := Aside0.mk (FRd.out.set 5 (.int .i64 (rd_T86 M.memo q).f1))
    have HBx0 := Aside0.mk (below_set (j := 5) (v := (.int .i64 (rd_T86 M.memo q).f1)) HBd.out GE.out)
    have BMx1 : Aside0 (((w11.setCell ⟨g, 5, none⟩ (.int .i64 (rd_T86 M.memo q).f1)).setCell ⟨g, 9, none⟩ (.int .i64 (wrap64 (M.hi + 1)))).heap[g]? = some (.cells #[.slice Ar M.r.length cr, .int .i64 M.N, .string M.s, .int .i64 M.room, .slice Av M.v.length cv, .int .i64 (rd_T86 M.memo q).f1, .bool M.over, .int .i64 M.st, .int .i64 M.lo, .int .i64 (wrap64 (M.hi + 1)), .slice (some ad) M.memo.length cm] 36 (0, 0))) := ⟨blk_put (cs := #[.slice Ar M.r.length cr, .int .i64 M.N, .string M.s, .int .i64 M.room, .slice Av M.v.length cv, .int .i64 (rd_T86 M.memo q).f1, .bool M.over, .int .i64 M.st, .int .i64 M.lo, .int .i64 M.hi, .slice (some ad) M.memo.length cm]) BMx0.out 9 _ rfl⟩
    have R3x1 := Aside0.mk (R3x0.out.set BMx0.out 9 (.int .i64 (wrap64 (M.hi + 1))))
    have FRx1 := Aside0.mk (FRx0.out.set 9 (.int .i64 (wrap64 (M.hi + 1))))
    have HBx1 := Aside0.mk (below_set (j := 9) (v := (.int .i64 (wrap64 (M.hi + 1)))) HBx0.out GE.out)
    exact ⟨rfl, ⟨_, _, _, _, _, _, BMx1.out, R3x1.out, GE.out⟩, HBx1.out, FRx1.out⟩
  rw [if_neg c2] at h
  have dq : decide (0 ≤ q) = false := decide_eq_false c2
  clear c2
  by_cases c3 : M.v.length < 17592186044416
  case neg => rw [if_neg c3] at h; cases h
  rw [if_pos c3] at h
  obtain rfl := Option.some.inj h
  have HL := Aside0.mk c3
  clear c3 h
  go_wp2_with (first | ((with_reducible refine gate_callee (f := 107) rfl ?_); (try (refine gate_guard (by rfl) ?_; dsimp only)); refine goesL_ (some 15) rfl rfl Try.func107 (by kernel_rfl) rfl #[.agg #[.int .i64 t1, .string t2]] rfl (by (try simp only [List.map_toArray, List.map_cons, List.map_nil]); first | done | rfl) ?_; (with_reducible refine (impl_Table_known.calls t1 t2 kn _ HK.out).mono ?_); rintro e w9 ⟨rfl, hb⟩; refine ⟨_, rfl, ?_⟩; have HXX := Aside0.mk hb; have R3b := Aside0.mk (R3a.out.below HXX.out); have HBb := Aside0.mk (below_step HBa.out HXX.out); have BMb := Aside0.mk (blk_below BMa.out HXX.out); have B2b := Aside0.mk (blk_below B2a.out HXX.out); have FRb := Aside0.mk (FRa.out.trans (FrM.of_below HXX.out)); clear HXX hb; clear hcm0 hcm1 hcm2 hcm3 hcm4 hcm5 hcm6 hcm7 hcm8 hcm9 hcm10 hfm4 hfm5 hfm8 hfm9 hc20 hc21; clear R3a HBa BMa B2a FRa; have hcm0 : w9.cell? ⟨g, 0, none⟩ = some (.slice Ar M.r.length cr) := (blk_cell BMb.out 0).trans rfl; have hcm1 : w9.cell? ⟨g, 1, none⟩ = some (.int .i64 M.N) := (blk_cell BMb.out 1).trans rfl; have hcm2 : w9.cell? ⟨g, 2, none⟩ = some (.string M.s) := (blk_cell BMb.out 2).trans rfl; have hcm3 : w9.cell? ⟨g, 3, none⟩ = some (.int .i64 M.room) := (blk_cell BMb.out 3).trans rfl; have hcm4 : w9.cell? ⟨g, 4, none⟩ = some (.slice Av M.v.length cv) := (blk_cell BMb.out 4).trans rfl; have hcm5 : w9.cell? ⟨g, 5, none⟩ = some (.int .i64 M.ret) := (blk_cell BMb.out 5).trans rfl; have hcm6 : w9.cell? ⟨g, 6, none⟩ = some (.bool M.over) := (blk_cell BMb.out 6).trans rfl; have hcm7 : w9.cell? ⟨g, 7, none⟩ = some (.int .i64 M.st) := (blk_cell BMb.out 7).trans rfl; have hcm8 : w9.cell? ⟨g, 8, none⟩ = some (.int .i64 M.lo) := (blk_cell BMb.out 8).trans rfl; have hcm9 : w9.cell? ⟨g, 9, none⟩ = some (.int .i64 M.hi) := (blk_cell BMb.out 9).trans rfl; have hcm10 : w9.cell? ⟨g, 10, none⟩ = some (.slice Am M.memo.length cm) := (blk_cell BMb.out 10).trans rfl; have hfm4 := blk_frozen BMb.out 4; have hfm5 := blk_frozen BMb.out 5; have hfm8 := blk_frozen BMb.out 8; have hfm9 := blk_frozen BMb.out 9; have hc20 : w9.cell? ⟨g2, 0, none⟩ = some (.int .i64 t1) := (blk_cell B2b.out 0).trans rfl; have hc21 : w9.cell? ⟨g2, 1, none⟩ = some (.string t2) := (blk_cell B2b.out 1).trans rfl) | ((with_reducible refine gate_callee (f := 129) rfl ?_); (try (refine gate_guard (by rfl) ?_; dsimp only)); refine goesL_ (some 31) rfl rfl Try.func129 (by kernel_rfl) rfl #[.agg #[.int .i64 t1, .string t2]] rfl (by (try simp only [List.map_toArray, List.map_cons, List.map_nil]); first | done | rfl) ?_; (with_reducible refine (impl_Table_key.calls k t1 t2 key _ HY.out).mono ?_); rintro e w10 ⟨rfl, hb⟩; refine ⟨_, rfl, ?_⟩; have HXX := Aside0.mk hb; have R3c := Aside0.mk (R3b.out.below HXX.out); have HBc := Aside0.mk (below_step HBb.out HXX.out); have BMc := Aside0.mk (blk_below BMb.out HXX.out); have B2c := Aside0.mk (blk_below B2b.out HXX.out); have FRc := Aside0.mk (FRb.out.trans (FrM.of_below HXX.out)); clear HXX hb; clear hcm0 hcm1 hcm2 hcm3 hcm4 hcm5 hcm6 hcm7 hcm8 hcm9 hcm10 hfm4 hfm5 hfm8 hfm9 hc20 hc21; clear R3b HBb BMb B2b FRb; have hcm0 : w10.cell? ⟨g, 0, none⟩ = some (.slice Ar M.r.length cr) := (blk_cell BMc.out 0).trans rfl; have hcm1 : w10.cell? ⟨g, 1, none⟩ = some (.int .i64 M.N) := (blk_cell BMc.out 1).trans rfl; have hcm2 : w10.cell? ⟨g, 2, none⟩ = some (.string M.s) := (blk_cell BMc.out 2).trans rfl; have hcm3 : w10.cell? ⟨g, 3, none⟩ = some (.int .i64 M.room) := (blk_cell BMc.out 3).trans rfl; have hcm4 : w10.cell? ⟨g, 4, none⟩ = some (.slice Av M.v.length cv) := (blk_cell BMc.out 4).trans rfl; have hcm5 : w10.cell? ⟨g, 5, none⟩ = some (.int .i64 M.ret) := (blk_cell BMc.out 5).trans rfl; have hcm6 : w10.cell? ⟨g, 6, none⟩ = some (.bool M.over) := (blk_cell BMc.out 6).trans rfl; have hcm7 : w10.cell? ⟨g, 7, none⟩ = some (.int .i64 M.st) := (blk_cell BMc.out 7).trans rfl; have hcm8 : w10.cell? ⟨g, 8, none⟩ = some (.int .i64 M.lo) := (blk_cell BMc.out 8).trans rfl; have hcm9 : w10.cell? ⟨g, 9, none⟩ = some (.int .i64 M.hi) := (blk_cell BMc.out 9).trans rfl; have hcm10 : w10.cell? ⟨g, 10, none⟩ = some (.slice Am M.memo.length cm) := (blk_cell BMc.out 10).trans rfl; have hfm4 := blk_frozen BMc.out 4; have hfm5 := blk_frozen BMc.out 5; have hfm8 := blk_frozen BMc.out 8; have hfm9 := blk_frozen BMc.out 9; have hc20 : w10.cell? ⟨g2, 0, none⟩ = some (.int .i64 t1) := (blk_cell B2c.out 0).trans rfl; have hc21 : w10.cell? ⟨g2, 1, none⟩ = some (.string t2) := (blk_cell B2c.out 1).trans rfl) | ((with_reducible refine gate_callee (f := 128) rfl ?_); (try (refine gate_guard (by rfl) ?_; dsimp only)); refine goesL_ (some 32) rfl rfl Try.func128 (by kernel_rfl) rfl #[.pointer (some ⟨g, 0, none⟩), .string key] rfl (by (try simp only [List.map_toArray, List.map_cons, List.map_nil]); first | done | rfl) ?_; (with_reducible refine (machine_seen.calls k w0.heap.size g M key q _ (IsM.x ⟨BMc.out, R3c.out, GE.out⟩) HQ.out).mono ?_); rintro e w11 ⟨rfl, hb⟩; refine ⟨_, rfl, ?_⟩; have HXX := Aside0.mk hb; have R3d := Aside0.mk (R3c.out.below HXX.out); have HBd := Aside0.mk (below_step HBc.out HXX.out); have BMd := Aside0.mk (blk_below BMc.out HXX.out); have B2d := Aside0.mk (blk_below B2c.out HXX.out); have FRd := Aside0.mk (FRc.out.trans (FrM.of_below HXX.out)); clear HXX hb; clear hcm0 hcm1 hcm2 hcm3 hcm4 hcm5 hcm6 hcm7 hcm8 hcm9 hcm10 hfm4 hfm5 hfm8 hfm9 hc20 hc21; clear R3c HBc BMc B2c FRc; have hcm0 : w11.cell? ⟨g, 0, none⟩ = some (.slice Ar M.r.length cr) := (blk_cell BMd.out 0).trans rfl; have hcm1 : w11.cell? ⟨g, 1, none⟩ = some (.int .i64 M.N) := (blk_cell BMd.out 1).trans rfl; have hcm2 : w11.cell? ⟨g, 2, none⟩ = some (.string M.s) := (blk_cell BMd.out 2).trans rfl; have hcm3 : w11.cell? ⟨g, 3, none⟩ = some (.int .i64 M.room) := (blk_cell BMd.out 3).trans rfl; have hcm4 : w11.cell? ⟨g, 4, none⟩ = some (.slice Av M.v.length cv) := (blk_cell BMd.out 4).trans rfl; have hcm5 : w11.cell? ⟨g, 5, none⟩ = some (.int .i64 M.ret) := (blk_cell BMd.out 5).trans rfl; have hcm6 : w11.cell? ⟨g, 6, none⟩ = some (.bool M.over) := (blk_cell BMd.out 6).trans rfl; have hcm7 : w11.cell? ⟨g, 7, none⟩ = some (.int .i64 M.st) := (blk_cell BMd.out 7).trans rfl; have hcm8 : w11.cell? ⟨g, 8, none⟩ = some (.int .i64 M.lo) := (blk_cell BMd.out 8).trans rfl; have hcm9 : w11.cell? ⟨g, 9, none⟩ = some (.int .i64 M.hi) := (blk_cell BMd.out 9).trans rfl; have hcm10 : w11.cell? ⟨g, 10, none⟩ = some (.slice Am M.memo.length cm) := (blk_cell BMd.out 10).trans rfl; have hfm4 := blk_frozen BMd.out 4; have hfm5 := blk_frozen BMd.out 5; have hfm8 := blk_frozen BMd.out 8; have hfm9 := blk_frozen BMd.out 9; have hc20 : w11.cell? ⟨g2, 0, none⟩ = some (.int .i64 t1) := (blk_cell B2d.out 0).trans rfl; have hc21 : w11.cell? ⟨g2, 1, none⟩ = some (.string t2) := (blk_cell B2d.out 1).trans rfl) | ((with_reducible refine gate_builtin (b := .append) (xs := #[.tmp 57, .tmp 58]) rfl ?_); at_builtin; refine Kd.R_append (Kd.int .i64) (w0 := w0) w0.heap.size rfl (.tmp 57) (.tmp 58) 33 3 (.int .i64 0) 8 rfl Try.underlying33 info3 rfl (by decide) (by decide) (.slice Av M.v.length cv) M.v 0 [.int .i64 0] (fun _ => True) (fun _ => False) rfl rfl rfl (fun _ hk => hk.elim) (fun _ _ => trivial) R3d.out.vals HBd.out (below_size HBd.out) (by have := HL.out; omega) ?_; intro v12 w12 ho hb hg hat; obtain ⟨A12, c12, e12⟩ := Kd.R_slice ho; obtain ⟨n12, hn12⟩ : ∃ n, n = (M.v ++ [0]).length := ⟨_, rfl⟩; rw [← hn12] at e12; subst e12; have N12 := Aside0.mk hn12; clear hn12; have BMe := Aside0.mk (blk_grown (g := g) (o := .cells #[.slice Ar M.r.length cr, .int .i64 M.N, .string M.s, .int .i64 M.room, .slice Av M.v.length cv, .int .i64 M.ret, .bool M.over, .int .i64 M.st, .int .i64 M.lo, .int .i64 M.hi, .slice Am M.memo.length cm] 36 (0, 0)) BMd.out hg (Kd.R_ne R3d.out.vals BMd.out (by decide))); have R3e := Aside0.mk (R3.vals_grown R3d.out hg ho); have HBe := Aside0.mk hb; have FRe : Aside0 (FrM g w w12) := ⟨fun k_ cs T h1 h2 h3 h4 => blk_grown (FRd.out k_ cs T h1 h2 h3 h4) hg (Kd.R_ne R3d.out.vals (FRd.out k_ cs T h1 h2 h3 h4) (fun e_ => h2 e_.symm))⟩; clear ho hb hg hat; clear hcm0 hcm1 hcm2 hcm3 hcm4 hcm5 hcm6 hcm7 hcm8 hcm9 hcm10 hfm4 hfm5 hfm8 hfm9 hc20 hc21; have hcm0 : w12.cell? ⟨g, 0, none⟩ = some (.slice Ar M.r.length cr) := (blk_cell BMe.out 0).trans rfl; have hcm1 : w12.cell? ⟨g, 1, none⟩ = some (.int .i64 M.N) := (blk_cell BMe.out 1).trans rfl; have hcm2 : w12.cell? ⟨g, 2, none⟩ = some (.string M.s) := (blk_cell BMe.out 2).trans rfl; have hcm3 : w12.cell? ⟨g, 3, none⟩ = some (.int .i64 M.room) := (blk_cell BMe.out 3).trans rfl; have hcm4 : w12.cell? ⟨g, 4, none⟩ = some (.slice Av M.v.length cv) := (blk_cell BMe.out 4).trans rfl; have hcm5 : w12.cell? ⟨g, 5, none⟩ = some (.int .i64 M.ret) := (blk_cell BMe.out 5).trans rfl; have hcm6 : w12.cell? ⟨g, 6, none⟩ = some (.bool M.over) := (blk_cell BMe.out 6).trans rfl; have hcm7 : w12.cell? ⟨g, 7, none⟩ = some (.int .i64 M.st) := (blk_cell BMe.out 7).trans rfl; have hcm8 : w12.cell? ⟨g, 8, none⟩ = some (.int .i64 M.lo) := (blk_cell BMe.out 8).trans rfl; have hcm9 : w12.cell? ⟨g, 9, none⟩ = some (.int .i64 M.hi) := (blk_cell BMe.out 9).trans rfl; have hcm10 : w12.cell? ⟨g, 10, none⟩ = some (.slice Am M.memo.length cm) := (blk_cell BMe.out 10).trans rfl; have hfm4 := blk_frozen BMe.out 4; have hfm5 := blk_frozen BMe.out 5; have hfm8 := blk_frozen BMe.out 8; have hfm9 := blk_frozen BMe.out 9))
  refine bodyPost_end (results_none rfl _ _ _) rfl ?_
  have hN := N12.out
  subst hN
  have BMx0 : Aside0 ((w12.setCell ⟨g, 4, none⟩ (.slice A12 (M.v ++ [0]).length c12)).heap[g]? = some (.cells #[.slice Ar M.r.length cr, .int .i64 M.N, .string M.s, .int .i64 M.room, .slice A12 (M.v ++ [0]).length c12, .int .i64 M.ret, .bool M.over, .int .i64 M.st, .int .i64 M.lo, .int .i64 M.hi, .slice Am M.memo.length cm] 36 (0, 0))) := ⟨blk_put (cs := #[.slice Ar M.r.length cr, .int .i64 M.N, .string M.s, .int .i64 M.room, .slice Av M.v.length cv, .int .i64 M.ret, .bool M.over, .int .i64 M.st, .int .i64 M.lo, .int .i64 M.hi, .slice Am M.memo.length cm]) BMe.out 4 _ rfl⟩
  have R3x0 := Aside0.mk (R3e.out.set BMe.out 4 (.slice A12 (M.v ++ [0]).length c12))
  have FRx0 := Aside0.mk (FRe.out.set 4 (.slice A12 (M.v ++ [0]).length c12))
  have HBx0 := Aside0.mk (below_set (j := 4) (v := (.slice A12 (M.v ++ [0]).length c12)) HBe.out GE.out)
  exact ⟨rfl, ⟨_, _, _, _, _, _, BMx0.out, R3x0.out, GE.out⟩, HBx0.out, FRx0.out⟩
def upF (k : Nat) (M : MS) : Option MS :=
  if (wrap64 ((M.v.length : Int) - 1)) < 0 then some { M with over := true } else
  if (wrap64 ((M.v.length : Int) - 1)) < (M.r.length : Int) ∧ (wrap64 ((M.v.length : Int) - 1)) < (M.v.length : Int) then
    if (rdOf false M.r (wrap64 ((M.v.length : Int) - 1)) != (M.ret == 0)) = true ∧ (rdOf 0 M.v (wrap64 ((M.v.length : Int) - 1)) == 0) = true then some { M with v := M.v.set (wrap64 ((M.v.length : Int) - 1)).toNat 1, ret := -1 } else
    if M.room = 0 then some { M with v := M.v.take (wrap64 ((M.v.length : Int) - 1)).toNat } else
    (impl_leftOf.f k M.N M.s (M.v.take (wrap64 ((M.v.length : Int) - 1)).toNat)).bind fun t => (impl_Table_key.f k t.1 t.2).bind fun key => (seenF k M.memo key 0).bind fun q =>
    if 0 ≤ q then some { M with v := M.v.take (wrap64 ((M.v.length : Int) - 1)).toNat } else
    if M.memo.length < 5864062014805 then
      if ((M.memo ++ [(⟨key, M.ret⟩ : S86)]).length : Int) > M.room then some { M with v := M.v.take (wrap64 ((M.v.length : Int) - 1)).toNat, memo := (M.memo ++ [(⟨key, M.ret⟩ : S86)]).drop 1 }
      else some { M with v := M.v.take (wrap64 ((M.v.length : Int) - 1)).toNat, memo := M.memo ++ [(⟨key, M.ret⟩ : S86)] }
    else none
  else none
set_option maxHeartbeats 8000000 in
set_option maxRecDepth 100000 in
theorem machine_up.calls (k : Nat) (w0 : World) (g : Nat) (M M' : MS) (w : World) (hI : IsMx w w0.heap.size g M) (hB : Below w0.heap.size w0 w) (h : upF k M = some M') :
    Calls Try.prog 117 #[.pointer (some ⟨g, 0, none⟩)] w fun e w' => e = .returned (.tuple #[]) ∧ IsMx w' w0.heap.size g M' ∧ Below w0.heap.size w0 w' ∧ FrM g w w' := by
  obtain ⟨Ar, cr, Av, cv, Am, cm, hM⟩ := hI
  have GE := Aside0.mk hM.geg
  have HBa := Aside0.mk hB
  have BMa := Aside0.mk hM.blk
  have R3a := Aside0.mk hM.rows
  have FRa := Aside0.mk (FrM.refl g w)
  clear hM hB
  unfold upF at h
  have hcm0 : w.cell? ⟨g, 0, none⟩ = some (.slice Ar M.r.length cr) := (blk_cell BMa.out 0).trans rfl
  have hcm1 : w.cell? ⟨g, 1, none⟩ = some (.int .i64 M.N) := (blk_cell BMa.out 1).trans rfl
  have hcm2 : w.cell? ⟨g, 2, none⟩ = some (.string M.s) := (blk_cell BMa.out 2).trans rfl
  have hcm3 : w.cell? ⟨g, 3, none⟩ = some (.int .i64 M.room) := (blk_cell BMa.out 3).trans rfl
  have hcm4 : w.cell? ⟨g, 4, none⟩ = some (.slice Av M.v.length cv) := (blk_cell BMa.out 4).trans rfl
  have hcm5 : w.cell? ⟨g, 5, none⟩ = some (.int .i64 M.ret) := (blk_cell BMa.out 5).trans rfl
  have hcm6 : w.cell? ⟨g, 6, none⟩ = some (.bool M.over) := (blk_cell BMa.out 6).trans rfl
  have hcm7 : w.cell? ⟨g, 7, none⟩ = some (.int .i64 M.st) := (blk_cell BMa.out 7).trans rfl
  have hcm8 : w.cell? ⟨g, 8, none⟩ = some (.int .i64 M.lo) := (blk_cell BMa.out 8).trans rfl
  have hcm9 : w.cell? ⟨g, 9, none⟩ = some (.int .i64 M.hi) := (blk_cell BMa.out 9).trans rfl
  have hcm10 : w.cell? ⟨g, 10, none⟩ = some (.slice Am M.memo.length cm) := (blk_cell BMa.out 10).trans rfl
  have hfm4 := blk_frozen BMa.out 4
  have hfm5 := blk_frozen BMa.out 5
  have hfm6 := blk_frozen BMa.out 6
  have hfm10 := blk_frozen BMa.out 10
  by_cases c1 : (wrap64 ((M.v.length : Int) - 1)) < 0
  · rw [if_pos c1] at h
    obtain rfl := Option.some.inj h
    have d1 : decide ((wrap64 ((M.v.length : Int) - 1)) < 0) = true := decide_eq_true c1
    clear c1 h
    go_enter Try.func117, Try.ntmps117
    go_wp2
    refine bodyPost_ret (results_none rfl _ _ _) rfl ?_
    have BMx0 : Aside0 ((w.setCell ⟨g, 6, none⟩ (.bool true)).heap[g]? = some (.cells #[.slice Ar M.r.length cr, .int .i64 M.N, .string M.s, .int .i64 M.room, .slice Av M.v.length cv, .int .i64 M.ret, .bool true, .int .i64 M.st, .int .i64 M.lo, .int .i64 M.hi, .slice Am M.memo.length cm] 36 (0, 0))) := ⟨blk_put (cs := #[.slice Ar M.r.length cr, .int .i64 M.N, .string M.s, .int .i64 M.room, .slice Av M.v.length cv, .int .i64 M.ret, .bool M.over, .int .i64 M.st, .int .i64 M.lo, .int .i64 M.hi, .slice Am M.memo.length cm]) BMa.out 6 _ rfl⟩
    have R3x0 := Aside0.mk (R3a.out.set BMa.out 6 (.bool true))
    have FRx0 := Aside0.mk (FRa.out.set 6 (.bool true))
    have HBx0 := Aside0.mk (below_set (j := 6) (v := (.bool true)) HBa.out GE.out)
    exact ⟨rfl, IsM.x ⟨BMx0.out, R3x0.out, GE.out⟩, HBx0.out, FRx0.out⟩
  have d1 : decide ((wrap64 ((M.v.length : Int) - 1)) < 0) = false := decide_eq_false c1
  by_cases c2 : (wrap64 ((M.v.length : Int) - 1)) < (M.r.length : Int) ∧ (wrap64 ((M.v.length : Int) - 1)) < (M.v.length : Int)
  case neg => rw [if_neg c1, if_neg c2] at h; cases h
  rw [if_neg c1, if_pos c2] at h
  have e1 : decide ((wrap64 ((M.v.length : Int) - 1)) < (M.r.length : Int)) = true := decide_eq_true c2.1
  have e2 : decide ((wrap64 ((M.v.length : Int) - 1)) < (M.v.length : Int)) = true := decide_eq_true c2.2
  have c0 : 0 ≤ (wrap64 ((M.v.length : Int) - 1)) := by omega
  have e0 : decide (0 ≤ (wrap64 ((M.v.length : Int) - 1))) = true := decide_eq_true c0
  have PD := Aside0.mk (show 0 ≤ (wrap64 ((M.v.length : Int) - 1)) ∧ (wrap64 ((M.v.length : Int) - 1)) < (M.r.length : Int) ∧ (wrap64 ((M.v.length : Int) - 1)) < (M.v.length : Int) from ⟨c0, c2.1, c2.2⟩)
  obtain ⟨adr, er, hxr⟩ := Kd.at_bool (Kd.R_reads' R3a.out.row).2.2 (wrap64 ((M.v.length : Int) - 1)) c0 c2.1
  cases er
  obtain ⟨gv, cv', ev, gvb, gvl, clv, HGv⟩ := Kd.R_form R3a.out.vals (by omega)
  (first | cases ev | (injection ev with ea_ en_ ec_; (first | subst ea_ | (injection ea_ with ea_; subst ea_)); subst ec_; clear en_))
  have GV := Aside0.mk gvb
  have HV : Aside0 (w.heap[gv]? = some (.cells clv 3 (0, 0))) := ⟨HGv⟩
  clear gvb gvl HGv
  have hnc : g ≠ gv := fun e_ => Kd.R_ne R3a.out.vals BMa.out (by decide) (congrArg some e_)
  have hnb : gv ≠ g := fun e_ => hnc e_.symm
  obtain ⟨hxv, hfv⟩ := Kd.R_celln 0 R3a.out.vals (wrap64 ((M.v.length : Int) - 1)) c0 c2.2
  replace hxv : w.cell? ⟨gv, (wrap64 ((M.v.length : Int) - 1)).toNat, none⟩ = some (.int .i64 (rdOf 0 M.v (wrap64 ((M.v.length : Int) - 1)))) := hxv
  have q1 : ((wrap64 ((M.v.length : Int) - 1)) < (M.r.length : Int)) = True := eq_true c2.1
  have q2 : ((wrap64 ((M.v.length : Int) - 1)) < (M.v.length : Int)) = True := eq_true c2.2
  have q0 : (0 ≤ (wrap64 ((M.v.length : Int) - 1))) = True := eq_true c0
  have q3 : ((wrap64 ((M.v.length : Int) - 1)) < 0) = False := eq_false c1
  clear c0 c1 c2
  obtain ⟨b1, hb1⟩ : ∃ b, (rdOf false M.r (wrap64 ((M.v.length : Int) - 1)) != (M.ret == 0)) = b := ⟨_, rfl⟩
  obtain ⟨b2, hb2⟩ : ∃ b, (rdOf 0 M.v (wrap64 ((M.v.length : Int) - 1)) == 0) = b := ⟨_, rfl⟩
  rw [hb1, hb2] at h
  cases b1 with
  | true =>
    have hb1e : (rdOf false M.r (wrap64 ((M.v.length : Int) - 1)) == (M.ret == 0)) = false := by simpa using hb1
    cases b2 with
    | true =>
      rw [if_pos ⟨rfl, rfl⟩] at h
      obtain rfl := Option.some.inj h
      clear h
      go_enter Try.func117, Try.ntmps117
      go_wp2
      go_quiet (fail)
      go_wp2
      refine bodyPost_ret (results_none rfl _ _ _) rfl ?_
      have hDW := pw_below_drewN (Below.refl w.heap.size w) nq
      have R3b := Aside0.mk (R3a.out.below hDW)
      have HBb := Aside0.mk (below_step HBa.out hDW)
      have BMb := Aside0.mk (blk_below BMa.out hDW)
      have FRb := Aside0.mk (FRa.out.trans (FrM.of_below hDW))
      have HPU := Kd.R_putg R3b.out.vals (wrap64 ((M.v.length : Int) - 1)) 1
      have BMc := Aside0.mk (blk_grown BMb.out HPU.2 (fun e_ => hnc (Option.some.inj e_)))
      have R3c : Aside0 (R3 ((w.drewN nq).setCell ⟨gv, (wrap64 ((M.v.length : Int) - 1)).toNat, none⟩ (.int .i64 1)) w0.heap.size (some adr) M.r.length cr M.r (some ⟨gv, 0, none⟩) M.v.length cv (M.v.set (wrap64 ((M.v.length : Int) - 1)).toNat 1) Am M.memo.length cm M.memo) := ⟨R3.vals_grown R3b.out HPU.2 HPU.1⟩
      have HBc := Aside0.mk (pw_below_grown HBb.out (some gv) HBb.out.size HPU.2 (fun k_ hk_ => by injection hk_ with hk_; subst hk_; exact GV.out))
      have FRc : Aside0 (FrM g w ((w.drewN nq).setCell ⟨gv, (wrap64 ((M.v.length : Int) - 1)).toNat, none⟩ (.int .i64 1))) := ⟨fun k_ cs T h1 h2 h3 h4 => blk_grown (FRb.out k_ cs T h1 h2 h3 h4) HPU.2 (fun e_ => by injection e_ with e_; rw [e_, HV.out] at h4; injection h4 with h4; injection h4 with _ h4; exact h2 h4.symm)⟩
      have hlen_ : (M.v.set (wrap64 ((M.v.length : Int) - 1)).toNat 1).length = M.v.length := List.length_set
      have BMx0 : Aside0 ((((w.drewN nq).setCell ⟨gv, (wrap64 ((M.v.length : Int) - 1)).toNat, none⟩ (.int .i64 1)).setCell ⟨g, 5, none⟩ (.int .i64 (-1))).heap[g]? = some (.cells #[.slice (some adr) M.r.length cr, .int .i64 M.N, .string M.s, .int .i64 M.room, .slice (some ⟨gv, 0, none⟩) M.v.length cv, .int .i64 (-1), .bool M.over, .int .i64 M.st, .int .i64 M.lo, .int .i64 M.hi, .slice Am M.memo.length cm] 36 (0, 0))) := ⟨blk_put (cs := #[.slice (some adr) M.r.length cr, .int .i64 M.N, .string M.s, .int .i64 M.room, .slice (some ⟨gv, 0, none⟩) M.v.length cv, .int .i64 M.ret, .bool M.over, .int .i64 M.st, .int .i64 M.lo, .int .i64 M.hi, .slice Am M.memo.length cm]) BMc.out 5 _ rfl⟩
      have R3x0 := Aside0.mk (R3c.out.set BMc.out 5 (.int .i64 (-1)))
      have FRx0 := Aside0.mk (FRc.out.set 5 (.int .i64 (-1)))
      have HBx0 := Aside0.mk (below_set (j := 5) (v := (.int .i64 (-1))) HBc.out GE.out)
      exact ⟨rfl, IsM.x ⟨(by rw [hlen_]; exact BMx0.out), (by rw [hlen_]; exact R3x0.out), GE.out⟩, HBx0.out, FRx0.out⟩
    | false =>
      rw [if_neg (by simp)] at h
      have HH := Aside0.mk h
      clear h
      go_enter Try.func117, Try.ntmps117
      go_wp2
      go_quiet (fail)
      have hDW := pw_below_drewN (Below.refl w.heap.size w) nq
      have R3b := Aside0.mk (R3a.out.below hDW)
      have HBb := Aside0.mk (below_step HBa.out hDW)
      have BMb := Aside0.mk (blk_below BMa.out hDW)
      have FRb := Aside0.mk (FRa.out.trans (FrM.of_below hDW))
      clear hDW R3a HBa BMa FRa hxr hxv hfv HV
      clear hcm0 hcm1 hcm2 hcm3 hcm4 hcm5 hcm6 hcm7 hcm8 hcm9 hcm10 hfm4 hfm5 hfm6 hfm10
      generalize w.drewN nq = wb at R3b HBb BMb FRb ⊢
      have hcm0 : wb.cell? ⟨g, 0, none⟩ = some (.slice (some adr) M.r.length cr) := (blk_cell BMb.out 0).trans rfl
      have hcm1 : wb.cell? ⟨g, 1, none⟩ = some (.int .i64 M.N) := (blk_cell BMb.out 1).trans rfl
      have hcm2 : wb.cell? ⟨g, 2, none⟩ = some (.string M.s) := (blk_cell BMb.out 2).trans rfl
      have hcm3 : wb.cell? ⟨g, 3, none⟩ = some (.int .i64 M.room) := (blk_cell BMb.out 3).trans rfl
      have hcm4 : wb.cell? ⟨g, 4, none⟩ = some (.slice (some ⟨gv, 0, none⟩) M.v.length cv) := (blk_cell BMb.out 4).trans rfl
      have hcm5 : wb.cell? ⟨g, 5, none⟩ = some (.int .i64 M.ret) := (blk_cell BMb.out 5).trans rfl
      have hcm6 : wb.cell? ⟨g, 6, none⟩ = some (.bool M.over) := (blk_cell BMb.out 6).trans rfl
      have hcm7 : wb.cell? ⟨g, 7, none⟩ = some (.int .i64 M.st) := (blk_cell BMb.out 7).trans rfl
      have hcm8 : wb.cell? ⟨g, 8, none⟩ = some (.int .i64 M.lo) := (blk_cell BMb.out 8).trans rfl
      have hcm9 : wb.cell? ⟨g, 9, none⟩ = some (.int .i64 M.hi) := (blk_cell BMb.out 9).trans rfl
      have hcm10 : wb.cell? ⟨g, 10, none⟩ = some (.slice Am M.memo.length cm) := (blk_cell BMb.out 10).trans rfl
      have hfm4 := blk_frozen BMb.out 4
      have hfm5 := blk_frozen BMb.out 5
      have hfm6 := blk_frozen BMb.out 6
      have hfm10 := blk_frozen BMb.out 10
      obtain ⟨V1, hV1⟩ : ∃ V, M.v.take (wrap64 ((M.v.length : Int) - 1)).toNat = V := ⟨_, rfl⟩
      have hVL : V1.length = (wrap64 ((M.v.length : Int) - 1)).toNat := by rw [← hV1, List.length_take]; have := PD.out; omega
      obtain ⟨i0_, hi0_, _, _, _⟩ := info_parts info3
      have hcut := cut_to (P := Try.prog) 33 3 .i64 Try.underlying33 hi0_ (some ⟨gv, 0, none⟩) M.v.length cv (wrap64 ((M.v.length : Int) - 1)) PD.out.1 (by have := PD.out; omega) (Kd.R_reads' R3b.out.vals).2.1
      rw [← hVL] at hcut
      clear hi0_
      have HVL := Aside0.mk hVL
      clear hVL
      have R3c := Aside0.mk (R3b.out.take (m := (wrap64 ((M.v.length : Int) - 1)).toNat) (by have := PD.out; omega))
      rw [hV1, ← HVL.out] at R3c
      have h := HH.out
      rw [hV1] at h
      clear HH hV1
      have BMc := Aside0.mk BMb.out
      have FRc := Aside0.mk FRb.out
      have HBc := Aside0.mk HBb.out
      have BMd : Aside0 ((wb.setCell ⟨g, 4, none⟩ (.slice (some ⟨gv, 0, none⟩) V1.length cv)).heap[g]? = some (.cells #[.slice (some adr) M.r.length cr, .int .i64 M.N, .string M.s, .int .i64 M.room, .slice (some ⟨gv, 0, none⟩) V1.length cv, .int .i64 M.ret, .bool M.over, .int .i64 M.st, .int .i64 M.lo, .int .i64 M.hi, .slice Am M.memo.length cm] 36 (0, 0))) := ⟨blk_put (cs := #[.slice (some adr) M.r.length cr, .int .i64 M.N, .string M.s, .int .i64 M.room, .slice (some ⟨gv, 0, none⟩) M.v.length cv, .int .i64 M.ret, .bool M.over, .int .i64 M.st, .int .i64 M.lo, .int .i64 M.hi, .slice Am M.memo.length cm]) BMc.out 4 _ rfl⟩
      have R3d := Aside0.mk (R3c.out.set BMc.out 4 (.slice (some ⟨gv, 0, none⟩) V1.length cv))
      have FRd := Aside0.mk (FRc.out.set 4 (.slice (some ⟨gv, 0, none⟩) V1.length cv))
      have HBd := Aside0.mk (below_set (j := 4) (v := (.slice (some ⟨gv, 0, none⟩) V1.length cv)) HBc.out GE.out)
      clear BMc FRc HBc R3c
      by_cases c5 : M.room = 0
      · rw [if_pos c5] at h
        obtain rfl := Option.some.inj h
        have d5 : (M.room == 0) = true := beq_iff_eq.2 c5
        clear c5 h
        go_wp2
        refine bodyPost_ret (results_none rfl _ _ _) rfl ?_
        exact ⟨rfl, IsM.x ⟨BMd.out, R3d.out, GE.out⟩, HBd.out, FRd.out⟩
      rw [if_neg c5] at h
      have d5 : (M.room == 0) = false := beq_eq_false_iff_ne.2 c5
      clear c5
      obtain ⟨⟨t1, t2⟩, ht, h⟩ := Option.bind_eq_some_iff.1 h
      obtain ⟨key, hy, h⟩ := Option.bind_eq_some_iff.1 h
      obtain ⟨q, hq, h⟩ := Option.bind_eq_some_iff.1 h
      dsimp only at hy h
      have HT := Aside0.mk ht
      have HY := Aside0.mk hy
      have HQ := Aside0.mk hq
      have HH := Aside0.mk h
      clear ht hy hq h
      go_upto_region 8 with (fail)
      clear R3b BMb FRb HBb
      clear hcm0 hcm1 hcm2 hcm3 hcm4 hcm5 hcm6 hcm7 hcm8 hcm9 hcm10 hfm4 hfm5 hfm6 hfm10
      have hDW := below_drew1 (Below.refl (wb.setCell ⟨g, 4, none⟩ (.slice (some ⟨gv, 0, none⟩) V1.length cv)).heap.size (wb.setCell ⟨g, 4, none⟩ (.slice (some ⟨gv, 0, none⟩) V1.length cv)))
      have R3e := Aside0.mk (R3d.out.below hDW)
      have HBe := Aside0.mk (below_step HBd.out hDW)
      have BMe := Aside0.mk (blk_below BMd.out hDW)
      have FRe := Aside0.mk (FRd.out.trans (FrM.of_below hDW))
      clear hDW R3d BMd FRd HBd
      have BM := Aside0.mk BMe.out
      have HV := Aside0.mk (Kd.R_reads' R3e.out.vals)
      refine start_ (n := 11) (S := fun w' => w'.cell? ⟨g, 1, none⟩ = some (.int .i64 M.N) ∧ w'.cell? ⟨g, 2, none⟩ = some (.string M.s) ∧ w'.cell? ⟨g, 4, none⟩ = some (.slice (some ⟨gv, 0, none⟩) V1.length cv)) (ds := []) #[false, false, false, false, false, false, false, false, false, false, false] (by kernel_rfl) rfl rfl ⟨(blk_cell BM.out 1).trans rfl, (blk_cell BM.out 2).trans rfl, (blk_cell BM.out 4).trans rfl⟩ (fun hHeld => ?_)
      generalize (wb.setCell ⟨g, 4, none⟩ (.slice (some ⟨gv, 0, none⟩) V1.length cv)).drew = W at BMe R3e HBe FRe BM HV hHeld ⊢
      have HX := Aside0.mk (Below.refl W.heap.size W)
      refine pure_ (i := 0) (N := some 61) (v := ?_) (a' := ?_) #[true, false, false, false, false, false, false, false, false, false, false] rfl rfl (by kernel_rfl) (fun _ _ _ h => h) (Or.inl ⟨by rfl, ?_⟩) ?_ ?_
      rotate_left
      · intro w'
        go_simp
        with_reducible rfl
      rotate_left
      · simp only [Act.put, List.setIfInBounds_toArray, List.set_cons_zero, List.set_cons_succ, i64_w, i32_w]
        rfl
      refine pure_ (i := 1) (N := some 62) (v := ?_) (a' := ?_) #[true, true, false, false, false, false, false, false, false, false, false] rfl rfl (by kernel_rfl) (fun _ _ _ h => h) (Or.inl ⟨by rfl, ?_⟩) ?_ ?_
      rotate_left
      · intro w'
        go_simp
        with_reducible rfl
      rotate_left
      · simp only [Act.put, List.setIfInBounds_toArray, List.set_cons_zero, List.set_cons_succ, i64_w, i32_w]
        rfl
      refine pure_ (i := 2) (N := some 63) (v := ?_) (a' := ?_) #[true, true, true, false, false, false, false, false, false, false, false] rfl rfl (by kernel_rfl) (fun _ _ _ h => h) (Or.inl ⟨by rfl, ?_⟩) ?_ ?_
      rotate_left
      · intro w'
        go_simp
        with_reducible rfl
      rotate_left
      · simp only [Act.put, List.setIfInBounds_toArray, List.set_cons_zero, List.set_cons_succ, i64_w, i32_w]
        rfl
      refine pure_ (i := 4) (N := some 65) (v := ?_) (a' := ?_) #[true, true, true, false, true, false, false, false, false, false, false] rfl rfl (by kernel_rfl) (fun _ _ _ h => h) (Or.inl ⟨by rfl, ?_⟩) ?_ ?_
      rotate_left
      · intro w'
        go_simp
        with_reducible rfl
      rotate_left
      · simp only [Act.put, List.setIfInBounds_toArray, List.set_cons_zero, List.set_cons_succ, i64_w, i32_w]
        rfl
      refine pure_ (i := 5) (N := some 66) (v := ?_) (a' := ?_) #[true, true, true, false, true, true, false, false, false, false, false] rfl rfl (by kernel_rfl) (fun _ _ _ h => h) (Or.inl ⟨by rfl, ?_⟩) ?_ ?_
      rotate_left
      · intro w'
        go_simp
        with_reducible rfl
      rotate_left
      · simp only [Act.put, List.setIfInBounds_toArray, List.set_cons_zero, List.set_cons_succ, i64_w, i32_w]
        rfl
      refine pure_ (i := 6) (N := some 67) (v := ?_) (a' := ?_) #[true, true, true, false, true, true, true, false, false, false, false] rfl rfl (by kernel_rfl) (fun _ _ _ h => h) (Or.inl ⟨by rfl, ?_⟩) ?_ ?_
      rotate_left
      · intro w'
        go_simp
        with_reducible rfl
      rotate_left
      · simp only [Act.put, List.setIfInBounds_toArray, List.set_cons_zero, List.set_cons_succ, i64_w, i32_w]
        rfl
      refine take_ (i := 3) (N := some 64) (v := ?_) (a' := ?_) #[true, true, true, true, true, true, true, false, false, false, false] rfl rfl (by kernel_rfl) (fun _ _ _ h => h) (Or.inl ⟨by rfl, ?_⟩) hHeld ?_ ?_
      rotate_left
      · rintro w' ⟨s0, s1, s2⟩
        go_simp
        with_reducible rfl
      rotate_left
      · simp only [Act.put, List.setIfInBounds_toArray, List.set_cons_zero, List.set_cons_succ, i64_w, i32_w]
        rfl
      refine take_ (i := 7) (N := some 68) (v := ?_) (a' := ?_) #[true, true, true, true, true, true, true, true, false, false, false] rfl rfl (by kernel_rfl) (fun _ _ _ h => h) (Or.inl ⟨by rfl, ?_⟩) hHeld ?_ ?_
      rotate_left
      · rintro w' ⟨s0, s1, s2⟩
        go_simp
        with_reducible rfl
      rotate_left
      · simp only [Act.put, List.setIfInBounds_toArray, List.set_cons_zero, List.set_cons_succ, i64_w, i32_w]
        rfl
      refine one_ (i := 8) (N := some 69) #[true, true, true, true, true, true, true, true, true, false, false] rfl rfl (by kernel_rfl) (by decide) (fun K hK => ?_)
      refine goes_ Try.func80 (by kernel_rfl) rfl #[.agg #[.int .i64 M.N, .string M.s], .slice (some ⟨gv, 0, none⟩) V1.length cv] (by rfl) rfl rfl (by simp only [List.map_toArray, List.map_cons, List.map_nil]; rfl) ?_
      with_reducible refine (impl_leftOf.calls k M.N M.s (some ⟨gv, 0, none⟩) cv V1 t1 t2 _ (Kd.C_below HV.out.2.2 HX.out) HV.out.2.1 HT.out).mono ?_
      rintro e wq ⟨rfl, hb⟩
      refine ⟨_, rfl, ?_⟩
      have n0_ := Aside0.mk (below_step HX.out hb)
      clear HX
      have HX := n0_
      clear n0_
      have n0_ := Aside0.mk (blk_below BM.out hb)
      clear BM
      have BM := n0_
      clear n0_
      clear hb
      refine hK.out _ _ ⟨(blk_cell BM.out 1).trans rfl, (blk_cell BM.out 2).trans rfl, (blk_cell BM.out 4).trans rfl⟩ (fun hHeld => ?_)
      clear hK K
      refine norm_ (a' := ?_) ?_ ?_
      rotate_left
      · show Act.put _ (some 69) _ = _
        simp only [Act.put, List.setIfInBounds_toArray, List.set_cons_zero, List.set_cons_succ, i64_w, i32_w]
        rfl
      refine one_ (i := 9) (N := some 70) #[true, true, true, true, true, true, true, true, true, true, false] rfl rfl (by kernel_rfl) (by decide) (fun K hK => ?_)
      refine goes_ Try.func129 (by kernel_rfl) rfl #[.agg #[.int .i64 t1, .string t2]] (by rfl) rfl rfl (by simp only [List.map_toArray, List.map_cons, List.map_nil]; rfl) ?_
      with_reducible refine (impl_Table_key.calls k t1 t2 key _ HY.out).mono ?_
      rintro e wr ⟨rfl, hb⟩
      refine ⟨_, rfl, ?_⟩
      have n0_ := Aside0.mk (below_step HX.out hb)
      clear HX
      have HX := n0_
      clear n0_
      have n0_ := Aside0.mk (blk_below BM.out hb)
      clear BM
      have BM := n0_
      clear n0_
      clear hb
      refine hK.out _ _ ⟨(blk_cell BM.out 1).trans rfl, (blk_cell BM.out 2).trans rfl, (blk_cell BM.out 4).trans rfl⟩ (fun hHeld => ?_)
      clear hK K
      refine norm_ (a' := ?_) ?_ ?_
      rotate_left
      · show Act.put _ (some 70) _ = _
        simp only [Act.put, List.setIfInBounds_toArray, List.set_cons_zero, List.set_cons_succ, i64_w, i32_w]
        rfl
      refine pure_ (i := 10) (N := some 3) (v := ?_) (a' := ?_) #[true, true, true, true, true, true, true, true, true, true, true] rfl rfl (by kernel_rfl) (fun _ _ _ h => h) (Or.inl ⟨by rfl, ?_⟩) ?_ ?_
      rotate_left
      · intro w'
        go_simp
        with_reducible rfl
      rotate_left
      · simp only [Act.put, List.setIfInBounds_toArray, List.set_cons_zero, List.set_cons_succ, i64_w, i32_w]
        rfl
      refine done_ (by kernel_rfl) ?_

      try clear hHeld
      have R3f := Aside0.mk (R3e.out.below HX.out)
      have HBf := Aside0.mk (below_step HBe.out HX.out)
      have BMf := Aside0.mk (blk_below BMe.out HX.out)
      have FRf := Aside0.mk (FRe.out.trans (FrM.of_below HX.out))
      clear HX HV BM R3e BMe FRe HBe
      have hcm0 : wr.cell? ⟨g, 0, none⟩ = some (.slice (some adr) M.r.length cr) := (blk_cell BMf.out 0).trans rfl
      have hcm1 : wr.cell? ⟨g, 1, none⟩ = some (.int .i64 M.N) := (blk_cell BMf.out 1).trans rfl
      have hcm2 : wr.cell? ⟨g, 2, none⟩ = some (.string M.s) := (blk_cell BMf.out 2).trans rfl
      have hcm3 : wr.cell? ⟨g, 3, none⟩ = some (.int .i64 M.room) := (blk_cell BMf.out 3).trans rfl
      have hcm4 : wr.cell? ⟨g, 4, none⟩ = some (.slice (some ⟨gv, 0, none⟩) V1.length cv) := (blk_cell BMf.out 4).trans rfl
      have hcm5 : wr.cell? ⟨g, 5, none⟩ = some (.int .i64 M.ret) := (blk_cell BMf.out 5).trans rfl
      have hcm6 : wr.cell? ⟨g, 6, none⟩ = some (.bool M.over) := (blk_cell BMf.out 6).trans rfl
      have hcm7 : wr.cell? ⟨g, 7, none⟩ = some (.int .i64 M.st) := (blk_cell BMf.out 7).trans rfl
      have hcm8 : wr.cell? ⟨g, 8, none⟩ = some (.int .i64 M.lo) := (blk_cell BMf.out 8).trans rfl
      have hcm9 : wr.cell? ⟨g, 9, none⟩ = some (.int .i64 M.hi) := (blk_cell BMf.out 9).trans rfl
      have hcm10 : wr.cell? ⟨g, 10, none⟩ = some (.slice Am M.memo.length cm) := (blk_cell BMf.out 10).trans rfl
      have hfm4 := blk_frozen BMf.out 4
      have hfm5 := blk_frozen BMf.out 5
      have hfm6 := blk_frozen BMf.out 6
      have hfm10 := blk_frozen BMf.out 10
      have h := HH.out
      clear HH
      by_cases c6 : 0 ≤ q
      · rw [if_pos c6] at h
        obtain rfl := Option.some.inj h
        have d6 : decide (0 ≤ q) = true := decide_eq_true c6
        clear c6 h
        go_wp2_with (first | ((with_reducible refine gate_callee (f := 128) rfl ?_); (try (refine gate_guard (by rfl) ?_; dsimp only)); refine goesL_ (some 73) rfl rfl Try.func128 (by kernel_rfl) rfl #[.pointer (some ⟨g, 0, none⟩), .string key] rfl (by (try simp only [List.map_toArray, List.map_cons, List.map_nil]); first | done | rfl) ?_; (with_reducible refine (machine_seen.calls k w0.heap.size g { M with v := V1 } key q _ (IsM.x ⟨BMf.out, R3f.out, GE.out⟩) HQ.out).mono ?_); rintro e ws ⟨rfl, hb⟩; refine ⟨_, rfl, ?_⟩; have R3g := Aside0.mk (R3f.out.below hb); have HBg := Aside0.mk (below_step HBf.out hb); have BMg := Aside0.mk (blk_below BMf.out hb); have FRg := Aside0.mk (FRf.out.trans (FrM.of_below hb)); clear hb; clear hcm0 hcm1 hcm2 hcm3 hcm4 hcm5 hcm6 hcm7 hcm8 hcm9 hcm10 hfm4 hfm5 hfm6 hfm10; clear R3f BMf FRf HBf; have hcm0 : ws.cell? ⟨g, 0, none⟩ = some (.slice (some adr) M.r.length cr) := (blk_cell BMg.out 0).trans rfl; have hcm1 : ws.cell? ⟨g, 1, none⟩ = some (.int .i64 M.N) := (blk_cell BMg.out 1).trans rfl; have hcm2 : ws.cell? ⟨g, 2, none⟩ = some (.string M.s) := (blk_cell BMg.out 2).trans rfl; have hcm3 : ws.cell? ⟨g, 3, none⟩ = some (.int .i64 M.room) := (blk_cell BMg.out 3).trans rfl; have hcm4 : ws.cell? ⟨g, 4, none⟩ = some (.slice (some ⟨gv, 0, none⟩) V1.length cv) := (blk_cell BMg.out 4).trans rfl; have hcm5 : ws.cell? ⟨g, 5, none⟩ = some (.int .i64 M.ret) := (blk_cell BMg.out 5).trans rfl; have hcm6 : ws.cell? ⟨g, 6, none⟩ = some (.bool M.over) := (blk_cell BMg.out 6).trans rfl; have hcm7 : ws.cell? ⟨g, 7, none⟩ = some (.int .i64 M.st) := (blk_cell BMg.out 7).trans rfl; have hcm8 : ws.cell? ⟨g, 8, none⟩ = some (.int .i64 M.lo) := (blk_cell BMg.out 8).trans rfl; have hcm9 : ws.cell? ⟨g, 9, none⟩ = some (.int .i64 M.hi) := (blk_cell BMg.out 9).trans rfl; have hcm10 : ws.cell? ⟨g, 10, none⟩ = some (.slice Am M.memo.length cm) := (blk_cell BMg.out 10).trans rfl; have hfm4 := blk_frozen BMg.out 4; have hfm5 := blk_frozen BMg.out 5; have hfm6 := blk_frozen BMg.out 6; have hfm10 := blk_frozen BMg.out 10))
        refine bodyPost_ret (results_none rfl _ _ _) rfl ?_
        exact ⟨rfl, IsM.x ⟨BMg.out, R3g.out, GE.out⟩, HBg.out, FRg.out⟩
      rw [if_neg c6] at h
      have d6 : decide (0 ≤ q) = false := decide_eq_false c6
      clear c6
      by_cases c7 : M.memo.length < 5864062014805
      case neg => rw [if_neg c7] at h; cases h
      rw [if_pos c7] at h
      have HL := Aside0.mk c7
      clear c7
      obtain ⟨L7, hL7⟩ : ∃ L, M.memo ++ [(⟨key, M.ret⟩ : S86)] = L := ⟨_, rfl⟩
      rw [hL7] at h
      have HL7 := Aside0.mk hL7
      have HH := Aside0.mk h
      clear h hL7
      go_upto_region 10 with (first | ((with_reducible refine gate_callee (f := 128) rfl ?_); (try (refine gate_guard (by rfl) ?_; dsimp only)); refine goesL_ (some 73) rfl rfl Try.func128 (by kernel_rfl) rfl #[.pointer (some ⟨g, 0, none⟩), .string key] rfl (by (try simp only [List.map_toArray, List.map_cons, List.map_nil]); first | done | rfl) ?_; (with_reducible refine (machine_seen.calls k w0.heap.size g { M with v := V1 } key q _ (IsM.x ⟨BMf.out, R3f.out, GE.out⟩) HQ.out).mono ?_); rintro e ws ⟨rfl, hb⟩; refine ⟨_, rfl, ?_⟩; have R3g := Aside0.mk (R3f.out.below hb); have HBg := Aside0.mk (below_step HBf.out hb); have BMg := Aside0.mk (blk_below BMf.out hb); have FRg := Aside0.mk (FRf.out.trans (FrM.of_below hb)); clear hb; clear hcm0 hcm1 hcm2 hcm3 hcm4 hcm5 hcm6 hcm7 hcm8 hcm9 hcm10 hfm4 hfm5 hfm6 hfm10; clear R3f BMf FRf HBf; have hcm0 : ws.cell? ⟨g, 0, none⟩ = some (.slice (some adr) M.r.length cr) := (blk_cell BMg.out 0).trans rfl; have hcm1 : ws.cell? ⟨g, 1, none⟩ = some (.int .i64 M.N) := (blk_cell BMg.out 1).trans rfl; have hcm2 : ws.cell? ⟨g, 2, none⟩ = some (.string M.s) := (blk_cell BMg.out 2).trans rfl; have hcm3 : ws.cell? ⟨g, 3, none⟩ = some (.int .i64 M.room) := (blk_cell BMg.out 3).trans rfl; have hcm4 : ws.cell? ⟨g, 4, none⟩ = some (.slice (some ⟨gv, 0, none⟩) V1.length cv) := (blk_cell BMg.out 4).trans rfl; have hcm5 : ws.cell? ⟨g, 5, none⟩ = some (.int .i64 M.ret) := (blk_cell BMg.out 5).trans rfl; have hcm6 : ws.cell? ⟨g, 6, none⟩ = some (.bool M.over) := (blk_cell BMg.out 6).trans rfl; have hcm7 : ws.cell? ⟨g, 7, none⟩ = some (.int .i64 M.st) := (blk_cell BMg.out 7).trans rfl; have hcm8 : ws.cell? ⟨g, 8, none⟩ = some (.int .i64 M.lo) := (blk_cell BMg.out 8).trans rfl; have hcm9 : ws.cell? ⟨g, 9, none⟩ = some (.int .i64 M.hi) := (blk_cell BMg.out 9).trans rfl; have hcm10 : ws.cell? ⟨g, 10, none⟩ = some (.slice Am M.memo.length cm) := (blk_cell BMg.out 10).trans rfl; have hfm4 := blk_frozen BMg.out 4; have hfm5 := blk_frozen BMg.out 5; have hfm6 := blk_frozen BMg.out 6; have hfm10 := blk_frozen BMg.out 10))
      clear hcm0 hcm1 hcm2 hcm3 hcm4 hcm5 hcm6 hcm7 hcm8 hcm9 hcm10 hfm4 hfm5 hfm6 hfm10
      have hDW := below_drew1 (Below.refl ws.heap.size ws)
      have R3h := Aside0.mk (R3g.out.below hDW)
      have HBh := Aside0.mk (below_step HBg.out hDW)
      have BMh := Aside0.mk (blk_below BMg.out hDW)
      have FRh := Aside0.mk (FRg.out.trans (FrM.of_below hDW))
      clear hDW R3g BMg FRg HBg
      refine start_ (n := 16) (S := fun w' => w'.cell? ⟨g, 10, none⟩ = some (.slice Am M.memo.length cm) ∧ w'.cell? ⟨g, 5, none⟩ = some (.int .i64 M.ret)) (ds := [15]) #[false, false, false, false, false, false, false, false, false, false, false, false, false, false, false, false] (by kernel_rfl) rfl rfl ⟨(blk_cell BMh.out 10).trans rfl, (blk_cell BMh.out 5).trans rfl⟩ (fun hHeld => ?_)
      generalize ws.drew = wh at BMh R3h HBh FRh hHeld ⊢
      refine pure_ (i := 0) (N := some 75) (v := ?_) (a' := ?_) #[true, false, false, false, false, false, false, false, false, false, false, false, false, false, false, false] rfl rfl (by kernel_rfl) (fun _ _ _ h => h) (Or.inl ⟨by rfl, ?_⟩) ?_ ?_
      rotate_left
      · intro w'
        go_simp
        with_reducible rfl
      rotate_left
      · simp only [Act.put, List.setIfInBounds_toArray, List.set_cons_zero, List.set_cons_succ, i64_w, i32_w]
        rfl
      refine pure_ (i := 1) (N := some 76) (v := ?_) (a' := ?_) #[true, true, false, false, false, false, false, false, false, false, false, false, false, false, false, false] rfl rfl (by kernel_rfl) (fun _ _ _ h => h) (Or.inl ⟨by rfl, ?_⟩) ?_ ?_
      rotate_left
      · intro w'
        go_simp
        with_reducible rfl
      rotate_left
      · simp only [Act.put, List.setIfInBounds_toArray, List.set_cons_zero, List.set_cons_succ, i64_w, i32_w]
        rfl
      refine pure_ (i := 2) (N := some 77) (v := ?_) (a' := ?_) #[true, true, true, false, false, false, false, false, false, false, false, false, false, false, false, false] rfl rfl (by kernel_rfl) (fun _ _ _ h => h) (Or.inl ⟨by rfl, ?_⟩) ?_ ?_
      rotate_left
      · intro w'
        go_simp
        with_reducible rfl
      rotate_left
      · simp only [Act.put, List.setIfInBounds_toArray, List.set_cons_zero, List.set_cons_succ, i64_w, i32_w]
        rfl
      refine pure_ (i := 3) (N := some 78) (v := ?_) (a' := ?_) #[true, true, true, true, false, false, false, false, false, false, false, false, false, false, false, false] rfl rfl (by kernel_rfl) (fun _ _ _ h => h) (Or.inl ⟨by rfl, ?_⟩) ?_ ?_
      rotate_left
      · intro w'
        go_simp
        with_reducible rfl
      rotate_left
      · simp only [Act.put, List.setIfInBounds_toArray, List.set_cons_zero, List.set_cons_succ, i64_w, i32_w]
        rfl
      refine pure_ (i := 5) (N := some 80) (v := ?_) (a' := ?_) #[true, true, true, true, false, true, false, false, false, false, false, false, false, false, false, false] rfl rfl (by kernel_rfl) (fun _ _ _ h => h) (Or.inl ⟨by rfl, ?_⟩) ?_ ?_
      rotate_left
      · intro w'
        go_simp
        with_reducible rfl
      rotate_left
      · simp only [Act.put, List.setIfInBounds_toArray, List.set_cons_zero, List.set_cons_succ, i64_w, i32_w]
        rfl
      refine pure_ (i := 6) (N := some 81) (v := ?_) (a' := ?_) #[true, true, true, true, false, true, true, false, false, false, false, false, false, false, false, false] rfl rfl (by kernel_rfl) (fun _ _ _ h => h) (Or.inl ⟨by rfl, ?_⟩) ?_ ?_
      rotate_left
      · intro w'
        go_simp
        with_reducible rfl
      rotate_left
      · simp only [Act.put, List.setIfInBounds_toArray, List.set_cons_zero, List.set_cons_succ, i64_w, i32_w]
        rfl
      refine pure_ (i := 7) (N := some 82) (v := ?_) (a' := ?_) #[true, true, true, true, false, true, true, true, false, false, false, false, false, false, false, false] rfl rfl (by kernel_rfl) (fun _ _ _ h => h) (Or.inl ⟨by rfl, ?_⟩) ?_ ?_
      rotate_left
      · intro w'
        go_simp
        with_reducible rfl
      rotate_left
      · simp only [Act.put, List.setIfInBounds_toArray, List.set_cons_zero, List.set_cons_succ, i64_w, i32_w]
        rfl
      refine pure_ (i := 8) (N := some 83) (v := ?_) (a' := ?_) #[true, true, true, true, false, true, true, true, true, false, false, false, false, false, false, false] rfl rfl (by kernel_rfl) (fun _ _ _ h => h) (Or.inl ⟨by rfl, ?_⟩) ?_ ?_
      rotate_left
      · intro w'
        go_simp
        with_reducible rfl
      rotate_left
      · simp only [Act.put, List.setIfInBounds_toArray, List.set_cons_zero, List.set_cons_succ, i64_w, i32_w]
        rfl
      refine take_ (i := 4) (N := some 79) (v := ?_) (a' := ?_) #[true, true, true, true, true, true, true, true, true, false, false, false, false, false, false, false] rfl rfl (by kernel_rfl) (fun _ _ _ h => h) (Or.inl ⟨by rfl, ?_⟩) hHeld ?_ ?_
      rotate_left
      · rintro w' ⟨s0, s1⟩
        go_simp
        with_reducible rfl
      rotate_left
      · simp only [Act.put, List.setIfInBounds_toArray, List.set_cons_zero, List.set_cons_succ, i64_w, i32_w]
        rfl
      refine take_ (i := 9) (N := some 84) (v := ?_) (a' := ?_) #[true, true, true, true, true, true, true, true, true, true, false, false, false, false, false, false] rfl rfl (by kernel_rfl) (fun _ _ _ h => h) (Or.inl ⟨by rfl, ?_⟩) hHeld ?_ ?_
      rotate_left
      · rintro w' ⟨s0, s1⟩
        go_simp
        with_reducible rfl
      rotate_left
      · simp only [Act.put, List.setIfInBounds_toArray, List.set_cons_zero, List.set_cons_succ, i64_w, i32_w]
        rfl
      refine pure_ (i := 10) (N := some 85) (v := ?_) (a' := ?_) #[true, true, true, true, true, true, true, true, true, true, true, false, false, false, false, false] rfl rfl (by kernel_rfl) (fun _ _ _ h => h) (Or.inl ⟨by rfl, ?_⟩) ?_ ?_
      rotate_left
      · intro w'
        go_simp
        with_reducible rfl
      rotate_left
      · simp only [Act.put, List.setIfInBounds_toArray, List.set_cons_zero, List.set_cons_succ, i64_w, i32_w]
        rfl
      refine one_ (i := 11) (N := some 86) #[true, true, true, true, true, true, true, true, true, true, true, true, false, false, false, false] rfl rfl (by kernel_rfl) (by decide) (fun K hK => ?_)
      refine value_ (w1 := ?_) (v := ?_) (by rfl) rfl ?_ ?_
      rotate_left 2
      · go_simp
        constructor
        · rfl
        · rfl
      refine hK.out _ _ ⟨(blk_cell (blk_alloc BMh.out _) 10).trans rfl, (blk_cell (blk_alloc BMh.out _) 5).trans rfl⟩ (fun hHeld => ?_)
      clear hK K
      refine norm_ (a' := ?_) ?_ ?_
      rotate_left
      · show Act.put _ (some 86) _ = _
        simp only [Act.put, List.setIfInBounds_toArray, List.set_cons_zero, List.set_cons_succ, i64_w, i32_w]
        rfl
      refine one_ (i := 12) (N := some 87) #[true, true, true, true, true, true, true, true, true, true, true, true, true, false, false, false] rfl rfl (by kernel_rfl) (by decide) (fun K hK => ?_)
      refine Kd.Q_append_step k86 (w0 := w0) w0.heap.size (by rfl) (.tmp 79) (.tmp 86) 34 86 (.agg #[(.string ⟨#[]⟩), (.int .i64 0)]) 24 rfl Try.underlying34 info86 rfl (by decide) (by decide) (.slice Am M.memo.length cm) M.memo (⟨key, M.ret⟩ : S86) [.string key, .int .i64 M.ret] (fun _ => True) (fun _ => False) rfl rfl (k86_mkM _ _ _ (⟨key, M.ret⟩ : S86)) (fun _ hk => hk.elim) (fun _ _ => trivial) R3h.out.memo HBh.out (below_size HBh.out) (by have := HL.out; omega) ?_
      intro v7 w7 ho hbx hg hat
      rw [HL7.out] at ho
      obtain ⟨A7, c7, e7, hc7⟩ := Kd.Q_slice ho
      subst e7
      have BM7 := Aside0.mk (blk_grown BMh.out hg (Kd.Q_ne R3h.out.memo BMh.out (by decide)))
      have R37 := Aside0.mk (R3.memo_grown R3h.out hg ho)
      have HB7 := Aside0.mk hbx
      have FR7 : Aside0 (FrM g w w7) := ⟨fun k_ cs T h1 h2 h3 h4 => blk_grown (FRh.out k_ cs T h1 h2 h3 h4) hg (Kd.Q_ne R3h.out.memo (FRh.out k_ cs T h1 h2 h3 h4) (fun e_ => h3 e_.symm))⟩
      have HC7 := Aside0.mk hc7
      clear ho hbx hg hat hc7 R3h BMh FRh HBh
      refine hK.out _ _ ⟨(blk_cell BM7.out 10).trans rfl, (blk_cell BM7.out 5).trans rfl⟩ (fun hHeld => ?_)
      clear hK K
      refine norm_ (a' := ?_) ?_ ?_
      rotate_left
      · show Act.put _ (some 87) _ = _
        simp only [Act.put, List.setIfInBounds_toArray, List.set_cons_zero, List.set_cons_succ, i64_w, i32_w]
        rfl
      refine pure_ (i := 13) (N := some 88) (v := ?_) (a' := ?_) #[true, true, true, true, true, true, true, true, true, true, true, true, true, true, false, false] rfl rfl (by kernel_rfl) (fun _ _ _ h => h) (Or.inl ⟨by rfl, ?_⟩) ?_ ?_
      rotate_left
      · intro w'
        go_simp
        with_reducible rfl
      rotate_left
      · simp only [Act.put, List.setIfInBounds_toArray, List.set_cons_zero, List.set_cons_succ, i64_w, i32_w]
        rfl
      refine pure_ (i := 14) (N := some 89) (v := ?_) (a' := ?_) #[true, true, true, true, true, true, true, true, true, true, true, true, true, true, true, false] rfl rfl (by kernel_rfl) (fun _ _ _ h => h) (Or.inl ⟨by rfl, ?_⟩) ?_ ?_
      rotate_left
      · intro w'
        go_simp
        with_reducible rfl
      rotate_left
      · simp only [Act.put, List.setIfInBounds_toArray, List.set_cons_zero, List.set_cons_succ, i64_w, i32_w]
        rfl
      refine last_ (i := 15) (N := none) #[true, true, true, true, true, true, true, true, true, true, true, true, true, true, true, true] rfl rfl (by kernel_rfl) (by decide) (fun K hK => ?_)
      have hs7 : w7.cell? ⟨g, 10, none⟩ = some (.slice Am M.memo.length cm) := (blk_cell BM7.out 10).trans rfl
      have hfs7 := blk_frozen BM7.out 10
      refine skip_ (w1 := ?_) (by rfl) rfl ?_ ?_
      rotate_left
      · go_simp
        rfl
      clear hs7 hfs7
      refine hK.out _ _ ?_
      clear hK K
      refine done_ (by kernel_rfl) ?_

      try clear hHeld
      have BM8 : Aside0 ((w7.setCell ⟨g, 10, none⟩ (.slice A7 L7.length c7)).heap[g]? = some (.cells #[.slice (some adr) M.r.length cr, .int .i64 M.N, .string M.s, .int .i64 M.room, .slice (some ⟨gv, 0, none⟩) V1.length cv, .int .i64 M.ret, .bool M.over, .int .i64 M.st, .int .i64 M.lo, .int .i64 M.hi, .slice A7 L7.length c7] 36 (0, 0))) := ⟨blk_put (cs := #[.slice (some adr) M.r.length cr, .int .i64 M.N, .string M.s, .int .i64 M.room, .slice (some ⟨gv, 0, none⟩) V1.length cv, .int .i64 M.ret, .bool M.over, .int .i64 M.st, .int .i64 M.lo, .int .i64 M.hi, .slice Am M.memo.length cm]) BM7.out 10 _ rfl⟩
      have R38 := Aside0.mk (R37.out.set BM7.out 10 (.slice A7 L7.length c7))
      have FR8 := Aside0.mk (FR7.out.set 10 (.slice A7 L7.length c7))
      have HB8 := Aside0.mk (below_set (j := 10) (v := (.slice A7 L7.length c7)) HB7.out GE.out)
      clear R37 BM7 FR7 HB7
      generalize (w7.setCell ⟨g, 10, none⟩ (.slice A7 L7.length c7)) = w8 at BM8 R38 HB8 FR8 ⊢
      have hcm0 : w8.cell? ⟨g, 0, none⟩ = some (.slice (some adr) M.r.length cr) := (blk_cell BM8.out 0).trans rfl
      have hcm1 : w8.cell? ⟨g, 1, none⟩ = some (.int .i64 M.N) := (blk_cell BM8.out 1).trans rfl
      have hcm2 : w8.cell? ⟨g, 2, none⟩ = some (.string M.s) := (blk_cell BM8.out 2).trans rfl
      have hcm3 : w8.cell? ⟨g, 3, none⟩ = some (.int .i64 M.room) := (blk_cell BM8.out 3).trans rfl
      have hcm4 : w8.cell? ⟨g, 4, none⟩ = some (.slice (some ⟨gv, 0, none⟩) V1.length cv) := (blk_cell BM8.out 4).trans rfl
      have hcm5 : w8.cell? ⟨g, 5, none⟩ = some (.int .i64 M.ret) := (blk_cell BM8.out 5).trans rfl
      have hcm6 : w8.cell? ⟨g, 6, none⟩ = some (.bool M.over) := (blk_cell BM8.out 6).trans rfl
      have hcm7 : w8.cell? ⟨g, 7, none⟩ = some (.int .i64 M.st) := (blk_cell BM8.out 7).trans rfl
      have hcm8 : w8.cell? ⟨g, 8, none⟩ = some (.int .i64 M.lo) := (blk_cell BM8.out 8).trans rfl
      have hcm9 : w8.cell? ⟨g, 9, none⟩ = some (.int .i64 M.hi) := (blk_cell BM8.out 9).trans rfl
      have hcm10 : w8.cell? ⟨g, 10, none⟩ = some (.slice A7 L7.length c7) := (blk_cell BM8.out 10).trans rfl
      have hfm4 := blk_frozen BM8.out 4
      have hfm5 := blk_frozen BM8.out 5
      have hfm6 := blk_frozen BM8.out 6
      have hfm10 := blk_frozen BM8.out 10
      have h := HH.out
      clear HH
      by_cases c8 : (L7.length : Int) > M.room
      · rw [if_pos c8] at h
        have hL8 : (L7.drop 1).length = L7.length - 1 := List.length_drop
        have hQ8 := Kd.Q_drop (k := 1) R38.out.memo (by rw [← HL7.out]; simp)
        obtain ⟨L8, hL8e⟩ : ∃ L, L7.drop 1 = L := ⟨_, rfl⟩
        rw [hL8e] at h hL8 hQ8
        obtain rfl := Option.some.inj h
        have d8 : decide (M.room < (L7.length : Int)) = true := decide_eq_true c8
        clear c8 h hL8e
        obtain ⟨i1_, hi1_, _, hsz1_, _⟩ := info_parts info86
        have h1L : 1 ≤ L7.length := by rw [← HL7.out]; simp
        obtain ⟨A8, hA8⟩ : ∃ A, (if c7 = 1 then A7 else A7.map (·.add (1 * 2))) = A := ⟨_, rfl⟩
        have hcut2 := cut_from (P := Try.prog) 34 86 .i64 Try.underlying34 hi1_ 2 hsz1_ A7 L7.length c7 1 (by decide) (by omega)
        replace hcut2 : ∀ W_ : World, (Instr.slice 34 (.slice A7 L7.length c7) (some (.int .i64 1)) none none).run Try.prog W_ = .ok (.slice A8 L8.length (c7 - 1)) W_ := by intro W_; rw [hL8, ← hA8]; exact hcut2 W_
        replace hQ8 : Kd.Q k86 86 w8 w0.heap.size (fun _ => True) (.slice A8 L8.length (c7 - 1)) L8 := by rw [hL8, ← hA8]; exact hQ8
        have BM9 := Aside0.mk BM8.out
        have R39 : Aside0 (R3 w8 w0.heap.size (some adr) M.r.length cr M.r (some ⟨gv, 0, none⟩) V1.length cv V1 A8 L8.length (c7 - 1) L8) := ⟨R38.out.row, R38.out.vals, hQ8⟩
        clear hQ8 hi1_ hsz1_ hA8 hL8 h1L
        go_wp2
        go_quiet (fail)
        go_wp2
        first | refine bodyPost_end (results_none rfl _ _ _) rfl ?_ | refine bodyPost_ret (results_none rfl _ _ _) rfl ?_
        have hDW := pw_below_drewN (Below.refl w8.heap.size w8) nq
        have R3i := Aside0.mk (R39.out.below hDW)
        have HBi := Aside0.mk (below_step HB8.out hDW)
        have BMi := Aside0.mk (blk_below BM9.out hDW)
        have FRi := Aside0.mk (FR8.out.trans (FrM.of_below hDW))
        have BMj : Aside0 (((w8.drewN nq).setCell ⟨g, 10, none⟩ (.slice A8 L8.length (c7 - 1))).heap[g]? = some (.cells #[.slice (some adr) M.r.length cr, .int .i64 M.N, .string M.s, .int .i64 M.room, .slice (some ⟨gv, 0, none⟩) V1.length cv, .int .i64 M.ret, .bool M.over, .int .i64 M.st, .int .i64 M.lo, .int .i64 M.hi, .slice A8 L8.length (c7 - 1)] 36 (0, 0))) := ⟨blk_put (cs := #[.slice (some adr) M.r.length cr, .int .i64 M.N, .string M.s, .int .i64 M.room, .slice (some ⟨gv, 0, none⟩) V1.length cv, .int .i64 M.ret, .bool M.over, .int .i64 M.st, .int .i64 M.lo, .int .i64 M.hi, .slice A7 L7.length c7]) BMi.out 10 _ rfl⟩
        have R3j := Aside0.mk (R3i.out.set BMi.out 10 (.slice A8 L8.length (c7 - 1)))
        have FRj := Aside0.mk (FRi.out.set 10 (.slice A8 L8.length (c7 - 1)))
        have HBj := Aside0.mk (below_set (j := 10) (v := (.slice A8 L8.length (c7 - 1))) HBi.out GE.out)
        exact ⟨rfl, IsM.x ⟨BMj.out, R3j.out, GE.out⟩, HBj.out, FRj.out⟩
      rw [if_neg c8] at h
      obtain rfl := Option.some.inj h
      have d8 : decide (M.room < (L7.length : Int)) = false := decide_eq_false c8
      clear c8 h
      go_wp2
      go_quiet (fail)
      go_wp2
      first | refine bodyPost_end (results_none rfl _ _ _) rfl ?_ | refine bodyPost_ret (results_none rfl _ _ _) rfl ?_
      have hDW := pw_below_drewN (Below.refl w8.heap.size w8) nq
      have R3i := Aside0.mk (R38.out.below hDW)
      have HBi := Aside0.mk (below_step HB8.out hDW)
      have BMi := Aside0.mk (blk_below BM8.out hDW)
      have FRi := Aside0.mk (FR8.out.trans (FrM.of_below hDW))
      exact ⟨rfl, IsM.x ⟨BMi.out, R3i.out, GE.out⟩, HBi.out, FRi.out⟩
  | false =>
    have hb1e : (rdOf false M.r (wrap64 ((M.v.length : Int) - 1)) == (M.ret == 0)) = true := by simpa using hb1
    rw [if_neg (by simp)] at h
    have HH := Aside0.mk h
    clear h
    go_enter Try.func117, Try.ntmps117
    go_wp2
    go_quiet (fail)
    have hDW := pw_below_drewN (Below.refl w.heap.size w) nq
    have R3b := Aside0.mk (R3a.out.below hDW)
    have HBb := Aside0.mk (below_step HBa.out hDW)
    have BMb := Aside0.mk (blk_below BMa.out hDW)
    have FRb := Aside0.mk (FRa.out.trans (FrM.of_below hDW))
    clear hDW R3a HBa BMa FRa hxr hxv hfv HV
    clear hcm0 hcm1 hcm2 hcm3 hcm4 hcm5 hcm6 hcm7 hcm8 hcm9 hcm10 hfm4 hfm5 hfm6 hfm10
    generalize w.drewN nq = wb at R3b HBb BMb FRb ⊢
    have hcm0 : wb.cell? ⟨g, 0, none⟩ = some (.slice (some adr) M.r.length cr) := (blk_cell BMb.out 0).trans rfl
    have hcm1 : wb.cell? ⟨g, 1, none⟩ = some (.int .i64 M.N) := (blk_cell BMb.out 1).trans rfl
    have hcm2 : wb.cell? ⟨g, 2, none⟩ = some (.string M.s) := (blk_cell BMb.out 2).trans rfl
    have hcm3 : wb.cell? ⟨g, 3, none⟩ = some (.int .i64 M.room) := (blk_cell BMb.out 3).trans rfl
    have hcm4 : wb.cell? ⟨g, 4, none⟩ = some (.slice (some ⟨gv, 0, none⟩) M.v.length cv) := (blk_cell BMb.out 4).trans rfl
    have hcm5 : wb.cell? ⟨g, 5, none⟩ = some (.int .i64 M.ret) := (blk_cell BMb.out 5).trans rfl
    have hcm6 : wb.cell? ⟨g, 6, none⟩ = some (.bool M.over) := (blk_cell BMb.out 6).trans rfl
    have hcm7 : wb.cell? ⟨g, 7, none⟩ = some (.int .i64 M.st) := (blk_cell BMb.out 7).trans rfl
    have hcm8 : wb.cell? ⟨g, 8, none⟩ = some (.int .i64 M.lo) := (blk_cell BMb.out 8).trans rfl
    have hcm9 : wb.cell? ⟨g, 9, none⟩ = some (.int .i64 M.hi) := (blk_cell BMb.out 9).trans rfl
    have hcm10 : wb.cell? ⟨g, 10, none⟩ = some (.slice Am M.memo.length cm) := (blk_cell BMb.out 10).trans rfl
    have hfm4 := blk_frozen BMb.out 4
    have hfm5 := blk_frozen BMb.out 5
    have hfm6 := blk_frozen BMb.out 6
    have hfm10 := blk_frozen BMb.out 10
    obtain ⟨V1, hV1⟩ : ∃ V, M.v.take (wrap64 ((M.v.length : Int) - 1)).toNat = V := ⟨_, rfl⟩
    have hVL : V1.length = (wrap64 ((M.v.length : Int) - 1)).toNat := by rw [← hV1, List.length_take]; have := PD.out; omega
    obtain ⟨i0_, hi0_, _, _, _⟩ := info_parts info3
    have hcut := cut_to (P := Try.prog) 33 3 .i64 Try.underlying33 hi0_ (some ⟨gv, 0, none⟩) M.v.length cv (wrap64 ((M.v.length : Int) - 1)) PD.out.1 (by have := PD.out; omega) (Kd.R_reads' R3b.out.vals).2.1
    rw [← hVL] at hcut
    clear hi0_
    have HVL := Aside0.mk hVL
    clear hVL
    have R3c := Aside0.mk (R3b.out.take (m := (wrap64 ((M.v.length : Int) - 1)).toNat) (by have := PD.out; omega))
    rw [hV1, ← HVL.out] at R3c
    have h := HH.out
    rw [hV1] at h
    clear HH hV1
    have BMc := Aside0.mk BMb.out
    have FRc := Aside0.mk FRb.out
    have HBc := Aside0.mk HBb.out
    have BMd : Aside0 ((wb.setCell ⟨g, 4, none⟩ (.slice (some ⟨gv, 0, none⟩) V1.length cv)).heap[g]? = some (.cells #[.slice (some adr) M.r.length cr, .int .i64 M.N, .string M.s, .int .i64 M.room, .slice (some ⟨gv, 0, none⟩) V1.length cv, .int .i64 M.ret, .bool M.over, .int .i64 M.st, .int .i64 M.lo, .int .i64 M.hi, .slice Am M.memo.length cm] 36 (0, 0))) := ⟨blk_put (cs := #[.slice (some adr) M.r.length cr, .int .i64 M.N, .string M.s, .int .i64 M.room, .slice (some ⟨gv, 0, none⟩) M.v.length cv, .int .i64 M.ret, .bool M.over, .int .i64 M.st, .int .i64 M.lo, .int .i64 M.hi, .slice Am M.memo.length cm]) BMc.out 4 _ rfl⟩
    have R3d := Aside0.mk (R3c.out.set BMc.out 4 (.slice (some ⟨gv, 0, none⟩) V1.length cv))
    have FRd := Aside0.mk (FRc.out.set 4 (.slice (some ⟨gv, 0, none⟩) V1.length cv))
    have HBd := Aside0.mk (below_set (j := 4) (v := (.slice (some ⟨gv, 0, none⟩) V1.length cv)) HBc.out GE.out)
    clear BMc FRc HBc R3c
    by_cases c5 : M.room = 0
    · rw [if_pos c5] at h
      obtain rfl := Option.some.inj h
      have d5 : (M.room == 0) = true := beq_iff_eq.2 c5
      clear c5 h
      go_wp2
      refine bodyPost_ret (results_none rfl _ _ _) rfl ?_
      exact ⟨rfl, IsM.x ⟨BMd.out, R3d.out, GE.out⟩, HBd.out, FRd.out⟩
    rw [if_neg c5] at h
    have d5 : (M.room == 0) = false := beq_eq_false_iff_ne.2 c5
    clear c5
    obtain ⟨⟨t1, t2⟩, ht, h⟩ := Option.bind_eq_some_iff.1 h
    obtain ⟨key, hy, h⟩ := Option.bind_eq_some_iff.1 h
    obtain ⟨q, hq, h⟩ := Option.bind_eq_some_iff.1 h
    dsimp only at hy h
    have HT := Aside0.mk ht
    have HY := Aside0.mk hy
    have HQ := Aside0.mk hq
    have HH := Aside0.mk h
    clear ht hy hq h
    go_upto_region 8 with (fail)
    clear R3b BMb FRb HBb
    clear hcm0 hcm1 hcm2 hcm3 hcm4 hcm5 hcm6 hcm7 hcm8 hcm9 hcm10 hfm4 hfm5 hfm6 hfm10
    have hDW := below_drew1 (Below.refl (wb.setCell ⟨g, 4, none⟩ (.slice (some ⟨gv, 0, none⟩) V1.length cv)).heap.size (wb.setCell ⟨g, 4, none⟩ (.slice (some ⟨gv, 0, none⟩) V1.length cv)))
    have R3e := Aside0.mk (R3d.out.below hDW)
    have HBe := Aside0.mk (below_step HBd.out hDW)
    have BMe := Aside0.mk (blk_below BMd.out hDW)
    have FRe := Aside0.mk (FRd.out.trans (FrM.of_below hDW))
    clear hDW R3d BMd FRd HBd
    have BM := Aside0.mk BMe.out
    have HV := Aside0.mk (Kd.R_reads' R3e.out.vals)
    refine start_ (n := 11) (S := fun w' => w'.cell? ⟨g, 1, none⟩ = some (.int .i64 M.N) ∧ w'.cell? ⟨g, 2, none⟩ = some (.string M.s) ∧ w'.cell? ⟨g, 4, none⟩ = some (.slice (some ⟨gv, 0, none⟩) V1.length cv)) (ds := []) #[false, false, false, false, false, false, false, false, false, false, false] (by kernel_rfl) rfl rfl ⟨(blk_cell BM.out 1).trans rfl, (blk_cell BM.out 2).trans rfl, (blk_cell BM.out 4).trans rfl⟩ (fun hHeld => ?_)
    generalize (wb.setCell ⟨g, 4, none⟩ (.slice (some ⟨gv, 0, none⟩) V1.length cv)).drew = W at BMe R3e HBe FRe BM HV hHeld ⊢
    have HX := Aside0.mk (Below.refl W.heap.size W)
    refine pure_ (i := 0) (N := some 61) (v := ?_) (a' := ?_) #[true, false, false, false, false, false, false, false, false, false, false] rfl rfl (by kernel_rfl) (fun _ _ _ h => h) (Or.inl ⟨by rfl, ?_⟩) ?_ ?_
    rotate_left
    · intro w'
      go_simp
      with_reducible rfl
    rotate_left
    · simp only [Act.put, List.setIfInBounds_toArray, List.set_cons_zero, List.set_cons_succ, i64_w, i32_w]
      rfl
    refine pure_ (i := 1) (N := some 62) (v := ?_) (a' := ?_) #[true, true, false, false, false, false, false, false, false, false, false] rfl rfl (by kernel_rfl) (fun _ _ _ h => h) (Or.inl ⟨by rfl, ?_⟩) ?_ ?_
    rotate_left
    · intro w'
      go_simp
      with_reducible rfl
    rotate_left
    · simp only [Act.put, List.setIfInBounds_toArray, List.set_cons_zero, List.set_cons_succ, i64_w, i32_w]
      rfl
    refine pure_ (i := 2) (N := some 63) (v := ?_) (a' := ?_) #[true, true, true, false, false, false, false, false, false, false, false] rfl rfl (by kernel_rfl) (fun _ _ _ h => h) (Or.inl ⟨by rfl, ?_⟩) ?_ ?_
    rotate_left
    · intro w'
      go_simp
      with_reducible rfl
    rotate_left
    · simp only [Act.put, List.setIfInBounds_toArray, List.set_cons_zero, List.set_cons_succ, i64_w, i32_w]
      rfl
    refine pure_ (i := 4) (N := some 65) (v := ?_) (a' := ?_) #[true, true, true, false, true, false, false, false, false, false, false] rfl rfl (by kernel_rfl) (fun _ _ _ h => h) (Or.inl ⟨by rfl, ?_⟩) ?_ ?_
    rotate_left
    · intro w'
      go_simp
      with_reducible rfl
    rotate_left
    · simp only [Act.put, List.setIfInBounds_toArray, List.set_cons_zero, List.set_cons_succ, i64_w, i32_w]
      rfl
    refine pure_ (i := 5) (N := some 66) (v := ?_) (a' := ?_) #[true, true, true, false, true, true, false, false, false, false, false] rfl rfl (by kernel_rfl) (fun _ _ _ h => h) (Or.inl ⟨by rfl, ?_⟩) ?_ ?_
    rotate_left
    · intro w'
      go_simp
      with_reducible rfl
    rotate_left
    · simp only [Act.put, List.setIfInBounds_toArray, List.set_cons_zero, List.set_cons_succ, i64_w, i32_w]
      rfl
    refine pure_ (i := 6) (N := some 67) (v := ?_) (a' := ?_) #[true, true, true, false, true, true, true, false, false, false, false] rfl rfl (by kernel_rfl) (fun _ _ _ h => h) (Or.inl ⟨by rfl, ?_⟩) ?_ ?_
    rotate_left
    · intro w'
      go_simp
      with_reducible rfl
    rotate_left
    · simp only [Act.put, List.setIfInBounds_toArray, List.set_cons_zero, List.set_cons_succ, i64_w, i32_w]
      rfl
    refine take_ (i := 3) (N := some 64) (v := ?_) (a' := ?_) #[true, true, true, true, true, true, true, false, false, false, false] rfl rfl (by kernel_rfl) (fun _ _ _ h => h) (Or.inl ⟨by rfl, ?_⟩) hHeld ?_ ?_
    rotate_left
    · rintro w' ⟨s0, s1, s2⟩
      go_simp
      with_reducible rfl
    rotate_left
    · simp only [Act.put, List.setIfInBounds_toArray, List.set_cons_zero, List.set_cons_succ, i64_w, i32_w]
      rfl
    refine take_ (i := 7) (N := some 68) (v := ?_) (a' := ?_) #[true, true, true, true, true, true, true, true, false, false, false] rfl rfl (by kernel_rfl) (fun _ _ _ h => h) (Or.inl ⟨by rfl, ?_⟩) hHeld ?_ ?_
    rotate_left
    · rintro w' ⟨s0, s1, s2⟩
      go_simp
      with_reducible rfl
    rotate_left
    · simp only [Act.put, List.setIfInBounds_toArray, List.set_cons_zero, List.set_cons_succ, i64_w, i32_w]
      rfl
    refine one_ (i := 8) (N := some 69) #[true, true, true, true, true, true, true, true, true, false, false] rfl rfl (by kernel_rfl) (by decide) (fun K hK => ?_)
    refine goes_ Try.func80 (by kernel_rfl) rfl #[.agg #[.int .i64 M.N, .string M.s], .slice (some ⟨gv, 0, none⟩) V1.length cv] (by rfl) rfl rfl (by simp only [List.map_toArray, List.map_cons, List.map_nil]; rfl) ?_
    with_reducible refine (impl_leftOf.calls k M.N M.s (some ⟨gv, 0, none⟩) cv V1 t1 t2 _ (Kd.C_below HV.out.2.2 HX.out) HV.out.2.1 HT.out).mono ?_
    rintro e wq ⟨rfl, hb⟩
    refine ⟨_, rfl, ?_⟩
    have n0_ := Aside0.mk (below_step HX.out hb)
    clear HX
    have HX := n0_
    clear n0_
    have n0_ := Aside0.mk (blk_below BM.out hb)
    clear BM
    have BM := n0_
    clear n0_
    clear hb
    refine hK.out _ _ ⟨(blk_cell BM.out 1).trans rfl, (blk_cell BM.out 2).trans rfl, (blk_cell BM.out 4).trans rfl⟩ (fun hHeld => ?_)
    clear hK K
    refine norm_ (a' := ?_) ?_ ?_
    rotate_left
    · show Act.put _ (some 69) _ = _
      simp only [Act.put, List.setIfInBounds_toArray, List.set_cons_zero, List.set_cons_succ, i64_w, i32_w]
      rfl
    refine one_ (i := 9) (N := some 70) #[true, true, true, true, true, true, true, true, true, true, false] rfl rfl (by kernel_rfl) (by decide) (fun K hK => ?_)
    refine goes_ Try.func129 (by kernel_rfl) rfl #[.agg #[.int .i64 t1, .string t2]] (by rfl) rfl rfl (by simp only [List.map_toArray, List.map_cons, List.map_nil]; rfl) ?_
    with_reducible refine (impl_Table_key.calls k t1 t2 key _ HY.out).mono ?_
    rintro e wr ⟨rfl, hb⟩
    refine ⟨_, rfl, ?_⟩
    have n0_ := Aside0.mk (below_step HX.out hb)
    clear HX
    have HX := n0_
    clear n0_
    have n0_ := Aside0.mk (blk_below BM.out hb)
    clear BM
    have BM := n0_
    clear n0_
    clear hb
    refine hK.out _ _ ⟨(blk_cell BM.out 1).trans rfl, (blk_cell BM.out 2).trans rfl, (blk_cell BM.out 4).trans rfl⟩ (fun hHeld => ?_)
    clear hK K
    refine norm_ (a' := ?_) ?_ ?_
    rotate_left
    · show Act.put _ (some 70) _ = _
      simp only [Act.put, List.setIfInBounds_toArray, List.set_cons_zero, List.set_cons_succ, i64_w, i32_w]
      rfl
    refine pure_ (i := 10) (N := some 3) (v := ?_) (a' := ?_) #[true, true, true, true, true, true, true, true, true, true, true] rfl rfl (by kernel_rfl) (fun _ _ _ h => h) (Or.inl ⟨by rfl, ?_⟩) ?_ ?_
    rotate_left
    · intro w'
      go_simp
      with_reducible rfl
    rotate_left
    · simp only [Act.put, List.setIfInBounds_toArray, List.set_cons_zero, List.set_cons_succ, i64_w, i32_w]
      rfl
    refine done_ (by kernel_rfl) ?_

    try clear hHeld
    have R3f := Aside0.mk (R3e.out.below HX.out)
    have HBf := Aside0.mk (below_step HBe.out HX.out)
    have BMf := Aside0.mk (blk_below BMe.out HX.out)
    have FRf := Aside0.mk (FRe.out.trans (FrM.of_below HX.out))
    clear HX HV BM R3e BMe FRe HBe
    have hcm0 : wr.cell? ⟨g, 0, none⟩ = some (.slice (some adr) M.r.length cr) := (blk_cell BMf.out 0).trans rfl
    have hcm1 : wr.cell? ⟨g, 1, none⟩ = some (.int .i64 M.N) := (blk_cell BMf.out 1).trans rfl
    have hcm2 : wr.cell? ⟨g, 2, none⟩ = some (.string M.s) := (blk_cell BMf.out 2).trans rfl
    have hcm3 : wr.cell? ⟨g, 3, none⟩ = some (.int .i64 M.room) := (blk_cell BMf.out 3).trans rfl
    have hcm4 : wr.cell? ⟨g, 4, none⟩ = some (.slice (some ⟨gv, 0, none⟩) V1.length cv) := (blk_cell BMf.out 4).trans rfl
    have hcm5 : wr.cell? ⟨g, 5, none⟩ = some (.int .i64 M.ret) := (blk_cell BMf.out 5).trans rfl
    have hcm6 : wr.cell? ⟨g, 6, none⟩ = some (.bool M.over) := (blk_cell BMf.out 6).trans rfl
    have hcm7 : wr.cell? ⟨g, 7, none⟩ = some (.int .i64 M.st) := (blk_cell BMf.out 7).trans rfl
    have hcm8 : wr.cell? ⟨g, 8, none⟩ = some (.int .i64 M.lo) := (blk_cell BMf.out 8).trans rfl
    have hcm9 : wr.cell? ⟨g, 9, none⟩ = some (.int .i64 M.hi) := (blk_cell BMf.out 9).trans rfl
    have hcm10 : wr.cell? ⟨g, 10, none⟩ = some (.slice Am M.memo.length cm) := (blk_cell BMf.out 10).trans rfl
    have hfm4 := blk_frozen BMf.out 4
    have hfm5 := blk_frozen BMf.out 5
    have hfm6 := blk_frozen BMf.out 6
    have hfm10 := blk_frozen BMf.out 10
    have h := HH.out
    clear HH
    by_cases c6 : 0 ≤ q
    · rw [if_pos c6] at h
      obtain rfl := Option.some.inj h
      have d6 : decide (0 ≤ q) = true := decide_eq_true c6
      clear c6 h
      go_wp2_with (first | ((with_reducible refine gate_callee (f := 128) rfl ?_); (try (refine gate_guard (by rfl) ?_; dsimp only)); refine goesL_ (some 73) rfl rfl Try.func128 (by kernel_rfl) rfl #[.pointer (some ⟨g, 0, none⟩), .string key] rfl (by (try simp only [List.map_toArray, List.map_cons, List.map_nil]); first | done | rfl) ?_; (with_reducible refine (machine_seen.calls k w0.heap.size g { M with v := V1 } key q _ (IsM.x ⟨BMf.out, R3f.out, GE.out⟩) HQ.out).mono ?_); rintro e ws ⟨rfl, hb⟩; refine ⟨_, rfl, ?_⟩; have R3g := Aside0.mk (R3f.out.below hb); have HBg := Aside0.mk (below_step HBf.out hb); have BMg := Aside0.mk (blk_below BMf.out hb); have FRg := Aside0.mk (FRf.out.trans (FrM.of_below hb)); clear hb; clear hcm0 hcm1 hcm2 hcm3 hcm4 hcm5 hcm6 hcm7 hcm8 hcm9 hcm10 hfm4 hfm5 hfm6 hfm10; clear R3f BMf FRf HBf; have hcm0 : ws.cell? ⟨g, 0, none⟩ = some (.slice (some adr) M.r.length cr) := (blk_cell BMg.out 0).trans rfl; have hcm1 : ws.cell? ⟨g, 1, none⟩ = some (.int .i64 M.N) := (blk_cell BMg.out 1).trans rfl; have hcm2 : ws.cell? ⟨g, 2, none⟩ = some (.string M.s) := (blk_cell BMg.out 2).trans rfl; have hcm3 : ws.cell? ⟨g, 3, none⟩ = some (.int .i64 M.room) := (blk_cell BMg.out 3).trans rfl; have hcm4 : ws.cell? ⟨g, 4, none⟩ = some (.slice (some ⟨gv, 0, none⟩) V1.length cv) := (blk_cell BMg.out 4).trans rfl; have hcm5 : ws.cell? ⟨g, 5, none⟩ = some (.int .i64 M.ret) := (blk_cell BMg.out 5).trans rfl; have hcm6 : ws.cell? ⟨g, 6, none⟩ = some (.bool M.over) := (blk_cell BMg.out 6).trans rfl; have hcm7 : ws.cell? ⟨g, 7, none⟩ = some (.int .i64 M.st) := (blk_cell BMg.out 7).trans rfl; have hcm8 : ws.cell? ⟨g, 8, none⟩ = some (.int .i64 M.lo) := (blk_cell BMg.out 8).trans rfl; have hcm9 : ws.cell? ⟨g, 9, none⟩ = some (.int .i64 M.hi) := (blk_cell BMg.out 9).trans rfl; have hcm10 : ws.cell? ⟨g, 10, none⟩ = some (.slice Am M.memo.length cm) := (blk_cell BMg.out 10).trans rfl; have hfm4 := blk_frozen BMg.out 4; have hfm5 := blk_frozen BMg.out 5; have hfm6 := blk_frozen BMg.out 6; have hfm10 := blk_frozen BMg.out 10))
      refine bodyPost_ret (results_none rfl _ _ _) rfl ?_
      exact ⟨rfl, IsM.x ⟨BMg.out, R3g.out, GE.out⟩, HBg.out, FRg.out⟩
    rw [if_neg c6] at h
    have d6 : decide (0 ≤ q) = false := decide_eq_false c6
    clear c6
    by_cases c7 : M.memo.length < 5864062014805
    case neg => rw [if_neg c7] at h; cases h
    rw [if_pos c7] at h
    have HL := Aside0.mk c7
    clear c7
    obtain ⟨L7, hL7⟩ : ∃ L, M.memo ++ [(⟨key, M.ret⟩ : S86)] = L := ⟨_, rfl⟩
    rw [hL7] at h
    have HL7 := Aside0.mk hL7
    have HH := Aside0.mk h
    clear h hL7
    go_upto_region 10 with (first | ((with_reducible refine gate_callee (f := 128) rfl ?_); (try (refine gate_guard (by rfl) ?_; dsimp only)); refine goesL_ (some 73) rfl rfl Try.func128 (by kernel_rfl) rfl #[.pointer (some ⟨g, 0, none⟩), .string key] rfl (by (try simp only [List.map_toArray, List.map_cons, List.map_nil]); first | done | rfl) ?_; (with_reducible refine (machine_seen.calls k w0.heap.size g { M with v := V1 } key q _ (IsM.x ⟨BMf.out, R3f.out, GE.out⟩) HQ.out).mono ?_); rintro e ws ⟨rfl, hb⟩; refine ⟨_, rfl, ?_⟩; have R3g := Aside0.mk (R3f.out.below hb); have HBg := Aside0.mk (below_step HBf.out hb); have BMg := Aside0.mk (blk_below BMf.out hb); have FRg := Aside0.mk (FRf.out.trans (FrM.of_below hb)); clear hb; clear hcm0 hcm1 hcm2 hcm3 hcm4 hcm5 hcm6 hcm7 hcm8 hcm9 hcm10 hfm4 hfm5 hfm6 hfm10; clear R3f BMf FRf HBf; have hcm0 : ws.cell? ⟨g, 0, none⟩ = some (.slice (some adr) M.r.length cr) := (blk_cell BMg.out 0).trans rfl; have hcm1 : ws.cell? ⟨g, 1, none⟩ = some (.int .i64 M.N) := (blk_cell BMg.out 1).trans rfl; have hcm2 : ws.cell? ⟨g, 2, none⟩ = some (.string M.s) := (blk_cell BMg.out 2).trans rfl; have hcm3 : ws.cell? ⟨g, 3, none⟩ = some (.int .i64 M.room) := (blk_cell BMg.out 3).trans rfl; have hcm4 : ws.cell? ⟨g, 4, none⟩ = some (.slice (some ⟨gv, 0, none⟩) V1.length cv) := (blk_cell BMg.out 4).trans rfl; have hcm5 : ws.cell? ⟨g, 5, none⟩ = some (.int .i64 M.ret) := (blk_cell BMg.out 5).trans rfl; have hcm6 : ws.cell? ⟨g, 6, none⟩ = some (.bool M.over) := (blk_cell BMg.out 6).trans rfl; have hcm7 : ws.cell? ⟨g, 7, none⟩ = some (.int .i64 M.st) := (blk_cell BMg.out 7).trans rfl; have hcm8 : ws.cell? ⟨g, 8, none⟩ = some (.int .i64 M.lo) := (blk_cell BMg.out 8).trans rfl; have hcm9 : ws.cell? ⟨g, 9, none⟩ = some (.int .i64 M.hi) := (blk_cell BMg.out 9).trans rfl; have hcm10 : ws.cell? ⟨g, 10, none⟩ = some (.slice Am M.memo.length cm) := (blk_cell BMg.out 10).trans rfl; have hfm4 := blk_frozen BMg.out 4; have hfm5 := blk_frozen BMg.out 5; have hfm6 := blk_frozen BMg.out 6; have hfm10 := blk_frozen BMg.out 10))
    clear hcm0 hcm1 hcm2 hcm3 hcm4 hcm5 hcm6 hcm7 hcm8 hcm9 hcm10 hfm4 hfm5 hfm6 hfm10
    have hDW := below_drew1 (Below.refl ws.heap.size ws)
    have R3h := Aside0.mk (R3g.out.below hDW)
    have HBh := Aside0.mk (below_step HBg.out hDW)
    have BMh := Aside0.mk (blk_below BMg.out hDW)
    have FRh := Aside0.mk (FRg.out.trans (FrM.of_below hDW))
    clear hDW R3g BMg FRg HBg
    refine start_ (n := 16) (S := fun w' => w'.cell? ⟨g, 10, none⟩ = some (.slice Am M.memo.length cm) ∧ w'.cell? ⟨g, 5, none⟩ = some (.int .i64 M.ret)) (ds := [15]) #[false, false, false, false, false, false, false, false, false, false, false, false, false, false, false, false] (by kernel_rfl) rfl rfl ⟨(blk_cell BMh.out 10).trans rfl, (blk_cell BMh.out 5).trans rfl⟩ (fun hHeld => ?_)
    generalize ws.drew = wh at BMh R3h HBh FRh hHeld ⊢
    refine pure_ (i := 0) (N := some 75) (v := ?_) (a' := ?_) #[true, false, false, false, false, false, false, false, false, false, false, false, false, false, false, false] rfl rfl (by kernel_rfl) (fun _ _ _ h => h) (Or.inl ⟨by rfl, ?_⟩) ?_ ?_
    rotate_left
    · intro w'
      go_simp
      with_reducible rfl
    rotate_left
    · simp only [Act.put, List.setIfInBounds_toArray, List.set_cons_zero, List.set_cons_succ, i64_w, i32_w]
      rfl
    refine pure_ (i := 1) (N := some 76) (v := ?_) (a' := ?_) #[true, true, false, false, false, false, false, false, false, false, false, false, false, false, false, false] rfl rfl (by kernel_rfl) (fun _ _ _ h => h) (Or.inl ⟨by rfl, ?_⟩) ?_ ?_
    rotate_left
    · intro w'
      go_simp
      with_reducible rfl
    rotate_left
    · simp only [Act.put, List.setIfInBounds_toArray, List.set_cons_zero, List.set_cons_succ, i64_w, i32_w]
      rfl
    refine pure_ (i := 2) (N := some 77) (v := ?_) (a' := ?_) #[true, true, true, false, false, false, false, false, false, false, false, false, false, false, false, false] rfl rfl (by kernel_rfl) (fun _ _ _ h => h) (Or.inl ⟨by rfl, ?_⟩) ?_ ?_
    rotate_left
    · intro w'
      go_simp
      with_reducible rfl
    rotate_left
    · simp only [Act.put, List.setIfInBounds_toArray, List.set_cons_zero, List.set_cons_succ, i64_w, i32_w]
      rfl
    refine pure_ (i := 3) (N := some 78) (v := ?_) (a' := ?_) #[true, true, true, true, false, false, false, false, false, false, false, false, false, false, false, false] rfl rfl (by kernel_rfl) (fun _ _ _ h => h) (Or.inl ⟨by rfl, ?_⟩) ?_ ?_
    rotate_left
    · intro w'
      go_simp
      with_reducible rfl
    rotate_left
    · simp only [Act.put, List.setIfInBounds_toArray, List.set_cons_zero, List.set_cons_succ, i64_w, i32_w]
      rfl
    refine pure_ (i := 5) (N := some 80) (v := ?_) (a' := ?_) #[true, true, true, true, false, true, false, false, false, false, false, false, false, false, false, false] rfl rfl (by kernel_rfl) (fun _ _ _ h => h) (Or.inl ⟨by rfl, ?_⟩) ?_ ?_
    rotate_left
    · intro w'
      go_simp
      with_reducible rfl
    rotate_left
    · simp only [Act.put, List.setIfInBounds_toArray, List.set_cons_zero, List.set_cons_succ, i64_w, i32_w]
      rfl
    refine pure_ (i := 6) (N := some 81) (v := ?_) (a' := ?_) #[true, true, true, true, false, true, true, false, false, false, false, false, false, false, false, false] rfl rfl (by kernel_rfl) (fun _ _ _ h => h) (Or.inl ⟨by rfl, ?_⟩) ?_ ?_
    rotate_left
    · intro w'
      go_simp
      with_reducible rfl
    rotate_left
    · simp only [Act.put, List.setIfInBounds_toArray, List.set_cons_zero, List.set_cons_succ, i64_w, i32_w]
      rfl
    refine pure_ (i := 7) (N := some 82) (v := ?_) (a' := ?_) #[true, true, true, true, false, true, true, true, false, false, false, false, false, false, false, false] rfl rfl (by kernel_rfl) (fun _ _ _ h => h) (Or.inl ⟨by rfl, ?_⟩) ?_ ?_
    rotate_left
    · intro w'
      go_simp
      with_reducible rfl
    rotate_left
    · simp only [Act.put, List.setIfInBounds_toArray, List.set_cons_zero, List.set_cons_succ, i64_w, i32_w]
      rfl
    refine pure_ (i := 8) (N := some 83) (v := ?_) (a' := ?_) #[true, true, true, true, false, true, true, true, true, false, false, false, false, false, false, false] rfl rfl (by kernel_rfl) (fun _ _ _ h => h) (Or.inl ⟨by rfl, ?_⟩) ?_ ?_
    rotate_left
    · intro w'
      go_simp
      with_reducible rfl
    rotate_left
    · simp only [Act.put, List.setIfInBounds_toArray, List.set_cons_zero, List.set_cons_succ, i64_w, i32_w]
      rfl
    refine take_ (i := 4) (N := some 79) (v := ?_) (a' := ?_) #[true, true, true, true, true, true, true, true, true, false, false, false, false, false, false, false] rfl rfl (by kernel_rfl) (fun _ _ _ h => h) (Or.inl ⟨by rfl, ?_⟩) hHeld ?_ ?_
    rotate_left
    · rintro w' ⟨s0, s1⟩
      go_simp
      with_reducible rfl
    rotate_left
    · simp only [Act.put, List.setIfInBounds_toArray, List.set_cons_zero, List.set_cons_succ, i64_w, i32_w]
      rfl
    refine take_ (i := 9) (N := some 84) (v := ?_) (a' := ?_) #[true, true, true, true, true, true, true, true, true, true, false, false, false, false, false, false] rfl rfl (by kernel_rfl) (fun _ _ _ h => h) (Or.inl ⟨by rfl, ?_⟩) hHeld ?_ ?_
    rotate_left
    · rintro w' ⟨s0, s1⟩
      go_simp
      with_reducible rfl
    rotate_left
    · simp only [Act.put, List.setIfInBounds_toArray, List.set_cons_zero, List.set_cons_succ, i64_w, i32_w]
      rfl
    refine pure_ (i := 10) (N := some 85) (v := ?_) (a' := ?_) #[true, true, true, true, true, true, true, true, true, true, true, false, false, false, false, false] rfl rfl (by kernel_rfl) (fun _ _ _ h => h) (Or.inl ⟨by rfl, ?_⟩) ?_ ?_
    rotate_left
    · intro w'
      go_simp
      with_reducible rfl
    rotate_left
    · simp only [Act.put, List.setIfInBounds_toArray, List.set_cons_zero, List.set_cons_succ, i64_w, i32_w]
      rfl
    refine one_ (i := 11) (N := some 86) #[true, true, true, true, true, true, true, true, true, true, true, true, false, false, false, false] rfl rfl (by kernel_rfl) (by decide) (fun K hK => ?_)
    refine value_ (w1 := ?_) (v := ?_) (by rfl) rfl ?_ ?_
    rotate_left 2
    · go_simp
      constructor
      · rfl
      · rfl
    refine hK.out _ _ ⟨(blk_cell (blk_alloc BMh.out _) 10).trans rfl, (blk_cell (blk_alloc BMh.out _) 5).trans rfl⟩ (fun hHeld => ?_)
    clear hK K
    refine norm_ (a' := ?_) ?_ ?_
    rotate_left
    · show Act.put _ (some 86) _ = _
      simp only [Act.put, List.setIfInBounds_toArray, List.set_cons_zero, List.set_cons_succ, i64_w, i32_w]
      rfl
    refine one_ (i := 12) (N := some 87) #[true, true, true, true, true, true, true, true, true, true, true, true, true, false, false, false] rfl rfl (by kernel_rfl) (by decide) (fun K hK => ?_)
    refine Kd.Q_append_step k86 (w0 := w0) w0.heap.size (by rfl) (.tmp 79) (.tmp 86) 34 86 (.agg #[(.string ⟨#[]⟩), (.int .i64 0)]) 24 rfl Try.underlying34 info86 rfl (by decide) (by decide) (.slice Am M.memo.length cm) M.memo (⟨key, M.ret⟩ : S86) [.string key, .int .i64 M.ret] (fun _ => True) (fun _ => False) rfl rfl (k86_mkM _ _ _ (⟨key, M.ret⟩ : S86)) (fun _ hk => hk.elim) (fun _ _ => trivial) R3h.out.memo HBh.out (below_size HBh.out) (by have := HL.out; omega) ?_
    intro v7 w7 ho hbx hg hat
    rw [HL7.out] at ho
    obtain ⟨A7, c7, e7, hc7⟩ := Kd.Q_slice ho
    subst e7
    have BM7 := Aside0.mk (blk_grown BMh.out hg (Kd.Q_ne R3h.out.memo BMh.out (by decide)))
    have R37 := Aside0.mk (R3.memo_grown R3h.out hg ho)
    have HB7 := Aside0.mk hbx
    have FR7 : Aside0 (FrM g w w7) := ⟨fun k_ cs T h1 h2 h3 h4 => blk_grown (FRh.out k_ cs T h1 h2 h3 h4) hg (Kd.Q_ne R3h.out.memo (FRh.out k_ cs T h1 h2 h3 h4) (fun e_ => h3 e_.symm))⟩
    have HC7 := Aside0.mk hc7
    clear ho hbx hg hat hc7 R3h BMh FRh HBh
    refine hK.out _ _ ⟨(blk_cell BM7.out 10).trans rfl, (blk_cell BM7.out 5).trans rfl⟩ (fun hHeld => ?_)
    clear hK K
    refine norm_ (a' := ?_) ?_ ?_
    rotate_left
    · show Act.put _ (some 87) _ = _
      simp only [Act.put, List.setIfInBounds_toArray, List.set_cons_zero, List.set_cons_succ, i64_w, i32_w]
      rfl
    refine pure_ (i := 13) (N := some 88) (v := ?_) (a' := ?_) #[true, true, true, true, true, true, true, true, true, true, true, true, true, true, false, false] rfl rfl (by kernel_rfl) (fun _ _ _ h => h) (Or.inl ⟨by rfl, ?_⟩) ?_ ?_
    rotate_left
    · intro w'
      go_simp
      with_reducible rfl
    rotate_left
    · simp only [Act.put, List.setIfInBounds_toArray, List.set_cons_zero, List.set_cons_succ, i64_w, i32_w]
      rfl
    refine pure_ (i := 14) (N := some 89) (v := ?_) (a' := ?_) #[true, true, true, true, true, true, true, true, true, true, true, true, true, true, true, false] rfl rfl (by kernel_rfl) (fun _ _ _ h => h) (Or.inl ⟨by rfl, ?_⟩) ?_ ?_
    rotate_left
    · intro w'
      go_simp
      with_reducible rfl
    rotate_left
    · simp only [Act.put, List.setIfInBounds_toArray, List.set_cons_zero, List.set_cons_succ, i64_w, i32_w]
      rfl
    refine last_ (i := 15) (N := none) #[true, true, true, true, true, true, true, true, true, true, true, true, true, true, true, true] rfl rfl (by kernel_rfl) (by decide) (fun K hK => ?_)
    have hs7 : w7.cell? ⟨g, 10, none⟩ = some (.slice Am M.memo.length cm) := (blk_cell BM7.out 10).trans rfl
    have hfs7 := blk_frozen BM7.out 10
    refine skip_ (w1 := ?_) (by rfl) rfl ?_ ?_
    rotate_left
    · go_simp
      rfl
    clear hs7 hfs7
    refine hK.out _ _ ?_
    clear hK K
    refine done_ (by kernel_rfl) ?_

    try clear hHeld
    have BM8 : Aside0 ((w7.setCell ⟨g, 10, none⟩ (.slice A7 L7.length c7)).heap[g]? = some (.cells #[.slice (some adr) M.r.length cr, .int .i64 M.N, .string M.s, .int .i64 M.room, .slice (some ⟨gv, 0, none⟩) V1.length cv, .int .i64 M.ret, .bool M.over, .int .i64 M.st, .int .i64 M.lo, .int .i64 M.hi, .slice A7 L7.length c7] 36 (0, 0))) := ⟨blk_put (cs := #[.slice (some adr) M.r.length cr, .int .i64 M.N, .string M.s, .int .i64 M.room, .slice (some ⟨gv, 0, none⟩) V1.length cv, .int .i64 M.ret, .bool M.over, .int .i64 M.st, .int .i64 M.lo, .int .i64 M.hi, .slice Am M.memo.length cm]) BM7.out 10 _ rfl⟩
    have R38 := Aside0.mk (R37.out.set BM7.out 10 (.slice A7 L7.length c7))
    have FR8 := Aside0.mk (FR7.out.set 10 (.slice A7 L7.length c7))
    have HB8 := Aside0.mk (below_set (j := 10) (v := (.slice A7 L7.length c7)) HB7.out GE.out)
    clear R37 BM7 FR7 HB7
    generalize (w7.setCell ⟨g, 10, none⟩ (.slice A7 L7.length c7)) = w8 at BM8 R38 HB8 FR8 ⊢
    have hcm0 : w8.cell? ⟨g, 0, none⟩ = some (.slice (some adr) M.r.length cr) := (blk_cell BM8.out 0).trans rfl
    have hcm1 : w8.cell? ⟨g, 1, none⟩ = some (.int .i64 M.N) := (blk_cell BM8.out 1).trans rfl
    have hcm2 : w8.cell? ⟨g, 2, none⟩ = some (.string M.s) := (blk_cell BM8.out 2).trans rfl
    have hcm3 : w8.cell? ⟨g, 3, none⟩ = some (.int .i64 M.room) := (blk_cell BM8.out 3).trans rfl
    have hcm4 : w8.cell? ⟨g, 4, none⟩ = some (.slice (some ⟨gv, 0, none⟩) V1.length cv) := (blk_cell BM8.out 4).trans rfl
    have hcm5 : w8.cell? ⟨g, 5, none⟩ = some (.int .i64 M.ret) := (blk_cell BM8.out 5).trans rfl
    have hcm6 : w8.cell? ⟨g, 6, none⟩ = some (.bool M.over) := (blk_cell BM8.out 6).trans rfl
    have hcm7 : w8.cell? ⟨g, 7, none⟩ = some (.int .i64 M.st) := (blk_cell BM8.out 7).trans rfl
    have hcm8 : w8.cell? ⟨g, 8, none⟩ = some (.int .i64 M.lo) := (blk_cell BM8.out 8).trans rfl
    have hcm9 : w8.cell? ⟨g, 9, none⟩ = some (.int .i64 M.hi) := (blk_cell BM8.out 9).trans rfl
    have hcm10 : w8.cell? ⟨g, 10, none⟩ = some (.slice A7 L7.length c7) := (blk_cell BM8.out 10).trans rfl
    have hfm4 := blk_frozen BM8.out 4
    have hfm5 := blk_frozen BM8.out 5
    have hfm6 := blk_frozen BM8.out 6
    have hfm10 := blk_frozen BM8.out 10
    have h := HH.out
    clear HH
    by_cases c8 : (L7.length : Int) > M.room
    · rw [if_pos c8] at h
      have hL8 : (L7.drop 1).length = L7.length - 1 := List.length_drop
      have hQ8 := Kd.Q_drop (k := 1) R38.out.memo (by rw [← HL7.out]; simp)
      obtain ⟨L8, hL8e⟩ : ∃ L, L7.drop 1 = L := ⟨_, rfl⟩
      rw [hL8e] at h hL8 hQ8
      obtain rfl := Option.some.inj h
      have d8 : decide (M.room < (L7.length : Int)) = true := decide_eq_true c8
      clear c8 h hL8e
      obtain ⟨i1_, hi1_, _, hsz1_, _⟩ := info_parts info86
      have h1L : 1 ≤ L7.length := by rw [← HL7.out]; simp
      obtain ⟨A8, hA8⟩ : ∃ A, (if c7 = 1 then A7 else A7.map (·.add (1 * 2))) = A := ⟨_, rfl⟩
      have hcut2 := cut_from (P := Try.prog) 34 86 .i64 Try.underlying34 hi1_ 2 hsz1_ A7 L7.length c7 1 (by decide) (by omega)
      replace hcut2 : ∀ W_ : World, (Instr.slice 34 (.slice A7 L7.length c7) (some (.int .i64 1)) none none).run Try.prog W_ = .ok (.slice A8 L8.length (c7 - 1)) W_ := by intro W_; rw [hL8, ← hA8]; exact hcut2 W_
      replace hQ8 : Kd.Q k86 86 w8 w0.heap.size (fun _ => True) (.slice A8 L8.length (c7 - 1)) L8 := by rw [hL8, ← hA8]; exact hQ8
      have BM9 := Aside0.mk BM8.out
      have R39 : Aside0 (R3 w8 w0.heap.size (some adr) M.r.length cr M.r (some ⟨gv, 0, none⟩) V1.length cv V1 A8 L8.length (c7 - 1) L8) := ⟨R38.out.row, R38.out.vals, hQ8⟩
      clear hQ8 hi1_ hsz1_ hA8 hL8 h1L
      go_wp2
      go_quiet (fail)
      go_wp2
      first | refine bodyPost_end (results_none rfl _ _ _) rfl ?_ | refine bodyPost_ret (results_none rfl _ _ _) rfl ?_
      have hDW := pw_below_drewN (Below.refl w8.heap.size w8) nq
      have R3i := Aside0.mk (R39.out.below hDW)
      have HBi := Aside0.mk (below_step HB8.out hDW)
      have BMi := Aside0.mk (blk_below BM9.out hDW)
      have FRi := Aside0.mk (FR8.out.trans (FrM.of_below hDW))
      have BMj : Aside0 (((w8.drewN nq).setCell ⟨g, 10, none⟩ (.slice A8 L8.length (c7 - 1))).heap[g]? = some (.cells #[.slice (some adr) M.r.length cr, .int .i64 M.N, .string M.s, .int .i64 M.room, .slice (some ⟨gv, 0, none⟩) V1.length cv, .int .i64 M.ret, .bool M.over, .int .i64 M.st, .int .i64 M.lo, .int .i64 M.hi, .slice A8 L8.length (c7 - 1)] 36 (0, 0))) := ⟨blk_put (cs := #[.slice (some adr) M.r.length cr, .int .i64 M.N, .string M.s, .int .i64 M.room, .slice (some ⟨gv, 0, none⟩) V1.length cv, .int .i64 M.ret, .bool M.over, .int .i64 M.st, .int .i64 M.lo, .int .i64 M.hi, .slice A7 L7.length c7]) BMi.out 10 _ rfl⟩
      have R3j := Aside0.mk (R3i.out.set BMi.out 10 (.slice A8 L8.length (c7 - 1)))
      have FRj := Aside0.mk (FRi.out.set 10 (.slice A8 L8.length (c7 - 1)))
      have HBj := Aside0.mk (below_set (j := 10) (v := (.slice A8 L8.length (c7 - 1))) HBi.out GE.out)
      exact ⟨rfl, IsM.x ⟨BMj.out, R3j.out, GE.out⟩, HBj.out, FRj.out⟩
    rw [if_neg c8] at h
    obtain rfl := Option.some.inj h
    have d8 : decide (M.room < (L7.length : Int)) = false := decide_eq_false c8
    clear c8 h
    go_wp2
    go_quiet (fail)
    go_wp2
    first | refine bodyPost_end (results_none rfl _ _ _) rfl ?_ | refine bodyPost_ret (results_none rfl _ _ _) rfl ?_
    have hDW := pw_below_drewN (Below.refl w8.heap.size w8) nq
    have R3i := Aside0.mk (R38.out.below hDW)
    have HBi := Aside0.mk (below_step HB8.out hDW)
    have BMi := Aside0.mk (blk_below BM8.out hDW)
    have FRi := Aside0.mk (FR8.out.trans (FrM.of_below hDW))
    exact ⟨rfl, IsM.x ⟨BMi.out, R3i.out, GE.out⟩, HBi.out, FRi.out⟩
def stepF (k : Nat) (M : MS) : Option (MS × Bool) :=
  if M.over = true then some (M, false) else if M.st = 1000000000 then some (M, false) else if M.lo = 1000000000 then some (M, false) else if M.hi = 1000000000 then some (M, false) else
  if M.ret < 0 then (downF k { M with st := wrap64 (M.st + 1) }).bind fun x => some (x, true) else (upF k { M with st := wrap64 (M.st + 1) }).bind fun x => some (x, true)
set_option maxHeartbeats 8000000 in
set_option maxRecDepth 100000 in
theorem machine_step.calls (k : Nat) (w0 : World) (g : Nat) (M : MS) (x : MS × Bool) (w : World) (hI : IsMx w w0.heap.size g M) (hB : Below w0.heap.size w0 w) (h : stepF k M = some x) :
    Calls Try.prog 84 #[.pointer (some ⟨g, 0, none⟩)] w fun e w' => e = .returned (.bool x.2) ∧ IsMx w' w0.heap.size g x.1 ∧ Below w0.heap.size w0 w' ∧ FrM g w w' := by
  obtain ⟨Ar, cr, Av, cv, Am, cm, hM⟩ := hI
  obtain ⟨r, N, s, room, v, ret, over, st, lo, hi, memo⟩ := M
  have GE := Aside0.mk hM.geg
  have HBa := Aside0.mk hB
  have BMa : Aside0 (w.heap[g]? = some (.cells #[.slice Ar r.length cr, .int .i64 N, .string s, .int .i64 room, .slice Av v.length cv, .int .i64 ret, .bool over, .int .i64 st, .int .i64 lo, .int .i64 hi, .slice Am memo.length cm] 36 (0, 0))) := ⟨hM.blk⟩
  have R3a : Aside0 (R3 w w0.heap.size Ar r.length cr r Av v.length cv v Am memo.length cm memo) := ⟨hM.rows⟩
  have FRa := Aside0.mk (FrM.refl g w)
  clear hM hB
  unfold stepF at h
  dsimp only at h
  have hcm0 : w.cell? ⟨g, 0, none⟩ = some (.slice Ar r.length cr) := (blk_cell BMa.out 0).trans rfl
  have hcm1 : w.cell? ⟨g, 1, none⟩ = some (.int .i64 N) := (blk_cell BMa.out 1).trans rfl
  have hcm2 : w.cell? ⟨g, 2, none⟩ = some (.string s) := (blk_cell BMa.out 2).trans rfl
  have hcm3 : w.cell? ⟨g, 3, none⟩ = some (.int .i64 room) := (blk_cell BMa.out 3).trans rfl
  have hcm4 : w.cell? ⟨g, 4, none⟩ = some (.slice Av v.length cv) := (blk_cell BMa.out 4).trans rfl
  have hcm5 : w.cell? ⟨g, 5, none⟩ = some (.int .i64 ret) := (blk_cell BMa.out 5).trans rfl
  have hcm6 : w.cell? ⟨g, 6, none⟩ = some (.bool over) := (blk_cell BMa.out 6).trans rfl
  have hcm7 : w.cell? ⟨g, 7, none⟩ = some (.int .i64 st) := (blk_cell BMa.out 7).trans rfl
  have hcm8 : w.cell? ⟨g, 8, none⟩ = some (.int .i64 lo) := (blk_cell BMa.out 8).trans rfl
  have hcm9 : w.cell? ⟨g, 9, none⟩ = some (.int .i64 hi) := (blk_cell BMa.out 9).trans rfl
  have hcm10 : w.cell? ⟨g, 10, none⟩ = some (.slice Am memo.length cm) := (blk_cell BMa.out 10).trans rfl
  have hfm7 := blk_frozen BMa.out 7
  cases over with
  | true =>
    rw [if_pos rfl] at h
    obtain rfl := Option.some.inj h
    clear h
    go_enter Try.func84, Try.ntmps84
    go_wp2
    go_ret
    exact ⟨rfl, IsM.x ⟨BMa.out, R3a.out, GE.out⟩, HBa.out, FRa.out⟩
  | false =>
  rw [if_neg (by decide)] at h
  by_cases c1 : st = 1000000000
  · rw [if_pos c1] at h
    obtain rfl := Option.some.inj h
    have d1 : (st == 1000000000) = true := beq_iff_eq.2 c1
    clear c1 h
    go_enter Try.func84, Try.ntmps84
    go_wp2
    go_ret
    exact ⟨rfl, IsM.x ⟨BMa.out, R3a.out, GE.out⟩, HBa.out, FRa.out⟩
  rw [if_neg c1] at h
  have d1 : (st == 1000000000) = false := beq_eq_false_iff_ne.2 c1
  clear c1
  by_cases c2 : lo = 1000000000
  · rw [if_pos c2] at h
    obtain rfl := Option.some.inj h
    have d2 : (lo == 1000000000) = true := beq_iff_eq.2 c2
    clear c2 h
    go_enter Try.func84, Try.ntmps84
    go_wp2
    go_ret
    exact ⟨rfl, IsM.x ⟨BMa.out, R3a.out, GE.out⟩, HBa.out, FRa.out⟩
  rw [if_neg c2] at h
  have d2 : (lo == 1000000000) = false := beq_eq_false_iff_ne.2 c2
  clear c2
  by_cases c3 : hi = 1000000000
  · rw [if_pos c3] at h
    obtain rfl := Option.some.inj h
    have d3 : (hi == 1000000000) = true := beq_iff_eq.2 c3
    clear c3 h
    go_enter Try.func84, Try.ntmps84
    go_wp2
    go_ret
    exact ⟨rfl, IsM.x ⟨BMa.out, R3a.out, GE.out⟩, HBa.out, FRa.out⟩
  rw [if_neg c3] at h
  have d3 : (hi == 1000000000) = false := beq_eq_false_iff_ne.2 c3
  clear c3
  by_cases c4 : ret < 0
  · rw [if_pos c4] at h
    have d4 : decide (ret < 0) = true := decide_eq_true c4
    clear c4
    obtain ⟨M2, hd, h⟩ := Option.bind_eq_some_iff.1 h
    obtain rfl := Option.some.inj h
    have HD := Aside0.mk hd
    clear hd h
    have BMb : Aside0 ((w.setCell ⟨g, 7, none⟩ (.int .i64 (wrap64 (st + 1)))).heap[g]? = some (.cells #[.slice Ar r.length cr, .int .i64 N, .string s, .int .i64 room, .slice Av v.length cv, .int .i64 ret, .bool false, .int .i64 (wrap64 (st + 1)), .int .i64 lo, .int .i64 hi, .slice Am memo.length cm] 36 (0, 0))) := ⟨blk_put (cs := #[.slice Ar r.length cr, .int .i64 N, .string s, .int .i64 room, .slice Av v.length cv, .int .i64 ret, .bool false, .int .i64 st, .int .i64 lo, .int .i64 hi, .slice Am memo.length cm]) BMa.out 7 _ rfl⟩
    have R3b := Aside0.mk (R3a.out.set BMa.out 7 (.int .i64 (wrap64 (st + 1))))
    have FRb := Aside0.mk (FRa.out.set 7 (.int .i64 (wrap64 (st + 1))))
    have HBb := Aside0.mk (below_set (j := 7) (v := (.int .i64 (wrap64 (st + 1)))) HBa.out GE.out)
    go_enter Try.func84, Try.ntmps84
    go_wp2_with (first | ((with_reducible refine gate_callee (f := 116) rfl ?_); (try (refine gate_guard (by rfl) ?_; dsimp only)); refine goesL_ (some 41) rfl rfl Try.func116 (by kernel_rfl) rfl #[.pointer (some ⟨g, 0, none⟩)] rfl (by (try simp only [List.map_toArray, List.map_cons, List.map_nil]); first | done | rfl) ?_; (with_reducible refine (machine_down.calls k w0 g ⟨r, N, s, room, v, ret, false, wrap64 (st + 1), lo, hi, memo⟩ M2 _ (IsM.x ⟨BMb.out, R3b.out, GE.out⟩) HBb.out HD.out).mono ?_); rintro e w2 ⟨rfl, hI, hB, hF⟩; refine ⟨_, rfl, ?_⟩; have HI := Aside0.mk hI; have HB2 := Aside0.mk hB; have FR2 := Aside0.mk (FRb.out.trans hF); clear hI hB hF))
    go_ret
    exact ⟨rfl, HI.out, HB2.out, FR2.out⟩
  · rw [if_neg c4] at h
    have d4 : decide (ret < 0) = false := decide_eq_false c4
    clear c4
    obtain ⟨M2, hd, h⟩ := Option.bind_eq_some_iff.1 h
    obtain rfl := Option.some.inj h
    have HD := Aside0.mk hd
    clear hd h
    have BMb : Aside0 ((w.setCell ⟨g, 7, none⟩ (.int .i64 (wrap64 (st + 1)))).heap[g]? = some (.cells #[.slice Ar r.length cr, .int .i64 N, .string s, .int .i64 room, .slice Av v.length cv, .int .i64 ret, .bool false, .int .i64 (wrap64 (st + 1)), .int .i64 lo, .int .i64 hi, .slice Am memo.length cm] 36 (0, 0))) := ⟨blk_put (cs := #[.slice Ar r.length cr, .int .i64 N, .string s, .int .i64 room, .slice Av v.length cv, .int .i64 ret, .bool false, .int .i64 st, .int .i64 lo, .int .i64 hi, .slice Am memo.length cm]) BMa.out 7 _ rfl⟩
    have R3b := Aside0.mk (R3a.out.set BMa.out 7 (.int .i64 (wrap64 (st + 1))))
    have FRb := Aside0.mk (FRa.out.set 7 (.int .i64 (wrap64 (st + 1))))
    have HBb := Aside0.mk (below_set (j := 7) (v := (.int .i64 (wrap64 (st + 1)))) HBa.out GE.out)
    go_enter Try.func84, Try.ntmps84
    go_wp2_with (first | ((with_reducible refine gate_callee (f := 117) rfl ?_); (try (refine gate_guard (by rfl) ?_; dsimp only)); refine goesL_ (some 43) rfl rfl Try.func117 (by kernel_rfl) rfl #[.pointer (some ⟨g, 0, none⟩)] rfl (by (try simp only [List.map_toArray, List.map_cons, List.map_nil]); first | done | rfl) ?_; (with_reducible refine (machine_up.calls k w0 g ⟨r, N, s, room, v, ret, false, wrap64 (st + 1), lo, hi, memo⟩ M2 _ (IsM.x ⟨BMb.out, R3b.out, GE.out⟩) HBb.out HD.out).mono ?_); rintro e w2 ⟨rfl, hI, hB, hF⟩; refine ⟨_, rfl, ?_⟩; have HI := Aside0.mk hI; have HB2 := Aside0.mk hB; have FR2 := Aside0.mk (FRb.out.trans hF); clear hI hB hF))
    go_ret
    exact ⟨rfl, HI.out, HB2.out, FR2.out⟩
theorem copyM_eq {l0_0 : List Bool} {a0_1 : Int} {a0_2 : ByteArray} {a0_3 : Int} {l0_4 : List Int} {a0_5 : Int} {a0_6 : Bool} {a0_7 a0_8 a0_9 : Int} {l0_10 : List S86} (h : l0_0.length < 140737488355328 ∧ l0_4.length < 17592186044416 ∧ l0_10.length < 5864062014805) :
    impl_copyMachine.f l0_0 a0_1 a0_2 a0_3 l0_4 a0_5 a0_6 a0_7 a0_8 a0_9 l0_10 = some (l0_0, a0_1, a0_2, a0_3, l0_4, a0_5, a0_6, a0_7, a0_8, a0_9, l0_10) := by
  unfold impl_copyMachine.f impl_copyInts.f
  rw [if_pos (by simp; omega), if_pos (by simp; omega), Option.bind_some, if_pos (by simp; omega)]
  simp
section
variable {w : World} {g : Nat} {t : TypeId} {u0 u1 u2 u3 u4 u5 u6 u7 u8 u9 u10 : Value}
theorem R11 {α : Type} {d : Kd α} {e base : Nat} {ok : Nat → Prop} {v : Value} {xs : List α} {cs : Array Value} (h : d.R e w base ok v xs) (hb : w.heap[g]? = some (.cells cs t (0, 0))) (ht : ∀ q, q ∈ e :: d.E → q ≠ t) : d.R e (((((((((((w.setCell ⟨g, 0, none⟩ (u0)).setCell ⟨g, 1, none⟩ (u1)).setCell ⟨g, 2, none⟩ (u2)).setCell ⟨g, 3, none⟩ (u3)).setCell ⟨g, 4, none⟩ (u4)).setCell ⟨g, 5, none⟩ (u5)).setCell ⟨g, 6, none⟩ (u6)).setCell ⟨g, 7, none⟩ (u7)).setCell ⟨g, 8, none⟩ (u8)).setCell ⟨g, 9, none⟩ (u9)).setCell ⟨g, 10, none⟩ (u10)) base ok v xs := by
  have b0 := blk_put hb 0 u0 rfl
  have b1 := blk_put b0 1 u1 rfl
  have b2 := blk_put b1 2 u2 rfl
  have b3 := blk_put b2 3 u3 rfl
  have b4 := blk_put b3 4 u4 rfl
  have b5 := blk_put b4 5 u5 rfl
  have b6 := blk_put b5 6 u6 rfl
  have b7 := blk_put b6 7 u7 rfl
  have b8 := blk_put b7 8 u8 rfl
  have b9 := blk_put b8 9 u9 rfl
  exact Kd.R_set (Kd.R_set (Kd.R_set (Kd.R_set (Kd.R_set (Kd.R_set (Kd.R_set (Kd.R_set (Kd.R_set (Kd.R_set (Kd.R_set h hb ht 0 u0) b0 ht 1 u1) b1 ht 2 u2) b2 ht 3 u3) b3 ht 4 u4) b4 ht 5 u5) b5 ht 6 u6) b6 ht 7 u7) b7 ht 8 u8) b8 ht 9 u9) b9 ht 10 u10
theorem below11 {w0 : World} (h : Below w0.heap.size w0 w) (hg : w0.heap.size ≤ g) : Below w0.heap.size w0 (((((((((((w.setCell ⟨g, 0, none⟩ (u0)).setCell ⟨g, 1, none⟩ (u1)).setCell ⟨g, 2, none⟩ (u2)).setCell ⟨g, 3, none⟩ (u3)).setCell ⟨g, 4, none⟩ (u4)).setCell ⟨g, 5, none⟩ (u5)).setCell ⟨g, 6, none⟩ (u6)).setCell ⟨g, 7, none⟩ (u7)).setCell ⟨g, 8, none⟩ (u8)).setCell ⟨g, 9, none⟩ (u9)).setCell ⟨g, 10, none⟩ (u10)) :=
  below_set (below_set (below_set (below_set (below_set (below_set (below_set (below_set (below_set (below_set (below_set h hg) hg) hg) hg) hg) hg) hg) hg) hg) hg) hg
theorem far11 {k : Nat} {cs : Array Value} {T : TypeId} (h : w.heap[k]? = some (.cells cs T (0, 0))) (hk : k ≠ g) : (((((((((((w.setCell ⟨g, 0, none⟩ (u0)).setCell ⟨g, 1, none⟩ (u1)).setCell ⟨g, 2, none⟩ (u2)).setCell ⟨g, 3, none⟩ (u3)).setCell ⟨g, 4, none⟩ (u4)).setCell ⟨g, 5, none⟩ (u5)).setCell ⟨g, 6, none⟩ (u6)).setCell ⟨g, 7, none⟩ (u7)).setCell ⟨g, 8, none⟩ (u8)).setCell ⟨g, 9, none⟩ (u9)).setCell ⟨g, 10, none⟩ (u10)).heap[k]? = some (.cells cs T (0, 0)) :=
  blk_far (blk_far (blk_far (blk_far (blk_far (blk_far (blk_far (blk_far (blk_far (blk_far (blk_far h hk _) hk _) hk _) hk _) hk _) hk _) hk _) hk _) hk _) hk _) hk _
end
def runF : Nat → MS → Int → Int → Option MS
  | 0, _, _, _ => none
  | k + 1, M, i, n => if i < n then (stepF k M).bind fun x => if x.2 = true then runF k x.1 (wrap64 (i + 1)) n else some x.1 else some M
end Go.Proofs.Ytlpfmhikahlcoaa.G
