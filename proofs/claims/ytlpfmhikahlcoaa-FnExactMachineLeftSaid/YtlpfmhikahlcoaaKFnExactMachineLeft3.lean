-- texts of this session, merged by a program of it (wip/gen/pack.py)
import Derived.Test.YtlpfmhikahlcoaaKFnExactMachineLeft1
import Derived.Test.YtlpfmhikahlcoaaKFnExactMachineLeft2
-- written by a program of this session (wip/gen/gen.py); Lean checks it
namespace Go.Proofs.Ytlpfmhikahlcoaa.G
open Go.Proofs.Ytlpfmhikahlcoaa.Sh Go.RowKit Go.Proofs.YtlpfmhikahlcoaaW.PrintWords Go.Proofs.YtlpfmhikahlcoaaW.PrintLast Go.Proofs.YtlpfmhikahlcoaaW.PrintMore
attribute [local go_sem] max2_int min2_int max_two min_two max_three min_three max_four min_four   -- for this text's walks alone
set_option linter.unusedVariables false
set_option linter.unusedSimpArgs false

/-! ### impl_MachineOk: function 32 -/


open Go.Proofs.Ytlpfmhikahlcoaa.Mp
def decMem (x : ByteArray) : (l : List ByteArray) → Decidable (x ∈ l)
  | [] => isFalse (by simp)
  | a :: r => if h : x = a then isTrue (by rw [h]; simp) else match decMem x r with
    | isTrue h' => isTrue (List.mem_cons_of_mem _ h')
    | isFalse h' => isFalse (fun h2 => (List.mem_cons.1 h2).elim h h')
instance (x : ByteArray) (l : List ByteArray) : Decidable (x ∈ l) := decMem x l
/-- What a memo remembers at a place is a verdict, at a key of its own. -/
def okSeen (L : List (S86)) (i : Nat) : Prop := ((rd_T86 L i).f1 = 0 ∨ (rd_T86 L i).f1 = 1) ∧ (rd_T86 L i).f0 ∉ ((L.take i).map fun s => s.f0 : List ByteArray)
instance (L : List (S86)) (i : Nat) : Decidable (okSeen L i) := by unfold okSeen; infer_instance
def okMemo (L : List (S86)) : Prop := ∀ i, i < L.length → okSeen L i
instance (L : List (S86)) : Decidable (okMemo L) := by unfold okMemo; infer_instance
def okFront (room : Int) (nm nv : Nat) (N : Int) : Bool := decide (0 ≤ room ∧ room ≤ 40) && !decide ((nm : Int) > room) && !decide ((nv : Int) > N)
def okRet (ret : Int) (over : Bool) (nv : Nat) : Bool := decide (-1 ≤ ret ∧ ret ≤ 1) && !(over && (decide (ret < 0) || decide ((nv : Int) > 0)))
def okCounts (a b c : Int) : Bool := decide (0 ≤ a ∧ a ≤ 1000000000) && decide (0 ≤ b ∧ b ≤ 1000000000) && decide (0 ≤ c ∧ c ≤ 1000000000)
def impl_MachineOk.f (k : Nat) (l0_0 : List Bool) (a0_1 : Int) (a0_2 : ByteArray) (a0_3 : Int) (l0_4 : List Int) (a0_5 : Int) (a0_6 : Bool) (a0_7 : Int) (a0_8 : Int) (a0_9 : Int) (l0_10 : List (S86)) : Option Bool :=
 if ∀ s ∈ l0_10, s.f0.size ≤ maxLen then
  (impl_rowed.f k l0_0 a0_1 a0_2).bind fun t1 => (impl_placeOfBits.f k l0_4).bind fun t2 =>
   some (t1 && okFront a0_3 l0_10.length l0_4.length a0_1 && t2.2 && okRet a0_5 a0_6 l0_4.length && decide (okMemo l0_10) && okCounts a0_7 a0_8 a0_9)
 else none
theorem strKey (x : ByteArray) (h : x.size ≤ maxLen) : (keyOf Try.prog 9 (.string x)).isSome = true := by
 rw [WideMaps.keyOf_string_mk Try.underlying9 h]; rfl
theorem strCodec : Codec Try.prog 9 Value.string (fun s => s.size ≤ maxLen) := ⟨Go.Maps.string_keyed Try.underlying9, strKey, fun x y h => by injection h⟩
theorem zeroInt (w : World) : (zeroValue 3).run Try.prog w = .ok (.int .i64 0) w := by kernel_rfl
def seenKeys (L : List (S86)) : List ByteArray := L.map fun s => s.f0
def seenMap (L : List (S86)) (i : Nat) : List (ByteArray × Int) := ((L.take i).map fun s => (s.f0, 1)).reverse
theorem mget_ones (x : ByteArray) : ∀ l : List (S86), mget (l.map fun s => (s.f0, (1 : Int))) x = if x ∈ (l.map (fun s => s.f0) : List ByteArray) then 1 else 0 := by
 intro l
 induction l with
  | nil => rfl
  | cons a r ih =>
  simp only [List.map_cons, mget, List.mem_cons]
  by_cases h : a.f0 = x
  ·rw [if_pos h, if_pos (.inl h.symm)]
  ·rw [if_neg h, ih]
   by_cases h' : x ∈ (r.map (fun s => s.f0) : List ByteArray)
   ·rw [if_pos h', if_pos (.inr h')]
   ·rw [if_neg h', if_neg (fun h2 => h2.elim (fun h2 => h h2.symm) h')]
theorem mget_seen (L : List (S86)) (i : Nat) (x : ByteArray) : mget (seenMap L i) x = if x ∈ ((L.take i).map (fun s => s.f0) : List ByteArray) then 1 else 0 := by
 unfold seenMap
 rw [← List.map_reverse, mget_ones]
 simp only [List.map_reverse, List.mem_reverse]
theorem seenMap_succ (L : List (S86)) (i : Nat) (hi : i < L.length) : seenMap L (i + 1) = ((rd_T86 L i).f0, 1) :: seenMap L i := by
 unfold seenMap
 rw [List.take_add_one, List.map_append, List.reverse_append, List.getElem?_eq_getElem hi]
 simp [rd_T86, List.getD_eq_getElem?_getD, List.getElem?_eq_getElem hi]
theorem within_eq (a b c : Int) : impl_within.f a b c = some (decide (b ≤ a ∧ a ≤ c)) := by
 unfold impl_within.f
 by_cases h : a ≥ b
 ·rw [if_pos h]; simp [h]
 ·rw [if_neg h]; simp [h]
theorem isCount_eq (a : Int) : impl_isCount.f a = some (decide (0 ≤ a ∧ a ≤ 1000000000)) := by
 unfold impl_isCount.f; rw [within_eq]; rfl

set_option maxHeartbeats 80000000 in
set_option maxRecDepth 100000 in
theorem mok_1 (k : Nat) (A0_0 : Option Addr) (c0_0 : Nat) (l0_0 : List Bool) (a0_1 : Int) (a0_2 : ByteArray) (a0_3 : Int) (A0_4 : Option Addr) (c0_4 : Nat) (l0_4 : List Int) (a0_5 : Int) (a0_6 : Bool) (a0_7 : Int) (a0_8 : Int) (a0_9 : Int) (A0_10 : Option Addr) (c0_10 : Nat) (l0_10 : List (S86)) (w : World) (hr0_0 : Kd.C Kd.bool w A0_0 l0_0.length l0_0) (hc0_0 : l0_0.length ≤ c0_0) (hr0_4 : Kd.C (Kd.int .i64) w A0_4 l0_4.length l0_4) (hc0_4 : l0_4.length ≤ c0_4) (hr0_10 : Kd.C k86 w A0_10 l0_10.length l0_10) (hc0_10 : l0_10.length ≤ c0_10) (h1 : Aside0 (impl_rowed.f k l0_0 a0_1 a0_2 = some false)) :
  Calls Try.prog 32 #[.agg #[.slice A0_0 l0_0.length c0_0, .int .i64 a0_1, .string a0_2, .int .i64 a0_3, .slice A0_4 l0_4.length c0_4, .int .i64 a0_5, .bool a0_6, .int .i64 a0_7, .int .i64 a0_8, .int .i64 a0_9, .slice A0_10 l0_10.length c0_10]] w fun e w' => e = .returned (.bool false) ∧ Below w.heap.size w w' := by
   go_enter Try.func32, Try.ntmps32
   go_wp2_with (first | ((with_reducible refine gate_dst (N := 1) rfl ?_); refine box_event ?hg (N := 1) ?hd (cs := #[.slice A0_0 l0_0.length c0_0, .int .i64 a0_1, .string a0_2, .int .i64 a0_3, .slice A0_4 l0_4.length c0_4, .int .i64 a0_5, .bool a0_6, .int .i64 a0_7, .int .i64 a0_8, .int .i64 a0_9, .slice A0_10 l0_10.length c0_10]) (t := 36) ?hr ?_; (case hd => rfl); (case hg => rfl); (case hr => first | (go_simp; done) | (go_simp; rfl)); intro gb hg w3 hbox hb; have HB := Aside0.mk hb; have BK := Aside0.mk hbox; have GE := Aside0.mk (by rw [hg]; exact Nat.le_refl _ : w.heap.size ≤ gb); clear hb hbox hg; have hcz0 : w3.cell? ⟨gb, 0, none⟩ = some (.slice A0_0 l0_0.length c0_0) := (blk_cell BK.out 0).trans rfl; have hcz1 : w3.cell? ⟨gb, 1, none⟩ = some (.int .i64 a0_1) := (blk_cell BK.out 1).trans rfl; have hcz2 : w3.cell? ⟨gb, 2, none⟩ = some (.string a0_2) := (blk_cell BK.out 2).trans rfl; have hcz3 : w3.cell? ⟨gb, 3, none⟩ = some (.int .i64 a0_3) := (blk_cell BK.out 3).trans rfl; have hcz4 : w3.cell? ⟨gb, 4, none⟩ = some (.slice A0_4 l0_4.length c0_4) := (blk_cell BK.out 4).trans rfl; have hcz5 : w3.cell? ⟨gb, 5, none⟩ = some (.int .i64 a0_5) := (blk_cell BK.out 5).trans rfl; have hcz6 : w3.cell? ⟨gb, 6, none⟩ = some (.bool a0_6) := (blk_cell BK.out 6).trans rfl; have hcz7 : w3.cell? ⟨gb, 7, none⟩ = some (.int .i64 a0_7) := (blk_cell BK.out 7).trans rfl; have hcz8 : w3.cell? ⟨gb, 8, none⟩ = some (.int .i64 a0_8) := (blk_cell BK.out 8).trans rfl; have hcz9 : w3.cell? ⟨gb, 9, none⟩ = some (.int .i64 a0_9) := (blk_cell BK.out 9).trans rfl; have hcz10 : w3.cell? ⟨gb, 10, none⟩ = some (.slice A0_10 l0_10.length c0_10) := (blk_cell BK.out 10).trans rfl) | ((with_reducible refine gate_callee (f := 59) rfl ?_); (try (refine gate_guard (by rfl) ?_; dsimp only)); refine goesL_ (some 12) rfl rfl Try.func59 (by kernel_rfl) rfl #[.slice A0_0 l0_0.length c0_0, .agg #[.int .i64 a0_1, .string a0_2]] rfl (by (try simp only [List.map_toArray, List.map_cons, List.map_nil]); first | done | rfl) ?_; (with_reducible refine (impl_rowed.calls k _ _ l0_0 a0_1 a0_2 false _ ?side1 hc0_0 h1.out).mono ?_); (case side1 => exact Kd.C_below hr0_0 HB.out); rintro e w4 ⟨rfl, hb⟩; refine ⟨_, rfl, ?_⟩; have HB4 := Aside0.mk (below_step HB.out hb); have BK4 := Aside0.mk (blk_below BK.out hb); clear hb HB BK; clear hcz0 hcz1 hcz2 hcz3 hcz4 hcz5 hcz6 hcz7 hcz8 hcz9 hcz10; have hcy0 : w4.cell? ⟨gb, 0, none⟩ = some (.slice A0_0 l0_0.length c0_0) := (blk_cell BK4.out 0).trans rfl; have hcy1 : w4.cell? ⟨gb, 1, none⟩ = some (.int .i64 a0_1) := (blk_cell BK4.out 1).trans rfl; have hcy2 : w4.cell? ⟨gb, 2, none⟩ = some (.string a0_2) := (blk_cell BK4.out 2).trans rfl; have hcy3 : w4.cell? ⟨gb, 3, none⟩ = some (.int .i64 a0_3) := (blk_cell BK4.out 3).trans rfl; have hcy4 : w4.cell? ⟨gb, 4, none⟩ = some (.slice A0_4 l0_4.length c0_4) := (blk_cell BK4.out 4).trans rfl; have hcy5 : w4.cell? ⟨gb, 5, none⟩ = some (.int .i64 a0_5) := (blk_cell BK4.out 5).trans rfl; have hcy6 : w4.cell? ⟨gb, 6, none⟩ = some (.bool a0_6) := (blk_cell BK4.out 6).trans rfl; have hcy7 : w4.cell? ⟨gb, 7, none⟩ = some (.int .i64 a0_7) := (blk_cell BK4.out 7).trans rfl; have hcy8 : w4.cell? ⟨gb, 8, none⟩ = some (.int .i64 a0_8) := (blk_cell BK4.out 8).trans rfl; have hcy9 : w4.cell? ⟨gb, 9, none⟩ = some (.int .i64 a0_9) := (blk_cell BK4.out 9).trans rfl; have hcy10 : w4.cell? ⟨gb, 10, none⟩ = some (.slice A0_10 l0_10.length c0_10) := (blk_cell BK4.out 10).trans rfl))
   go_ret
   exact ⟨rfl, by repeat (first | (with_reducible first | exact HB4.out | exact HB.out | apply below_alloc | apply pw_below_drewN | apply below_drew1) | exact HB4.out | exact HB.out)⟩

set_option maxHeartbeats 80000000 in
set_option maxRecDepth 100000 in
theorem mok_2 (k : Nat) (A0_0 : Option Addr) (c0_0 : Nat) (l0_0 : List Bool) (a0_1 : Int) (a0_2 : ByteArray) (a0_3 : Int) (A0_4 : Option Addr) (c0_4 : Nat) (l0_4 : List Int) (a0_5 : Int) (a0_6 : Bool) (a0_7 : Int) (a0_8 : Int) (a0_9 : Int) (A0_10 : Option Addr) (c0_10 : Nat) (l0_10 : List (S86)) (w : World) (hr0_0 : Kd.C Kd.bool w A0_0 l0_0.length l0_0) (hc0_0 : l0_0.length ≤ c0_0) (hr0_4 : Kd.C (Kd.int .i64) w A0_4 l0_4.length l0_4) (hc0_4 : l0_4.length ≤ c0_4) (hr0_10 : Kd.C k86 w A0_10 l0_10.length l0_10) (hc0_10 : l0_10.length ≤ c0_10) (h1 : Aside0 (impl_rowed.f k l0_0 a0_1 a0_2 = some true)) (h2 : Aside0 (impl_within.f a0_3 0 40 = some false)) :
  Calls Try.prog 32 #[.agg #[.slice A0_0 l0_0.length c0_0, .int .i64 a0_1, .string a0_2, .int .i64 a0_3, .slice A0_4 l0_4.length c0_4, .int .i64 a0_5, .bool a0_6, .int .i64 a0_7, .int .i64 a0_8, .int .i64 a0_9, .slice A0_10 l0_10.length c0_10]] w fun e w' => e = .returned (.bool false) ∧ Below w.heap.size w w' := by
   go_enter Try.func32, Try.ntmps32
   go_wp2_with (first | ((with_reducible refine gate_dst (N := 1) rfl ?_); refine box_event ?hg (N := 1) ?hd (cs := #[.slice A0_0 l0_0.length c0_0, .int .i64 a0_1, .string a0_2, .int .i64 a0_3, .slice A0_4 l0_4.length c0_4, .int .i64 a0_5, .bool a0_6, .int .i64 a0_7, .int .i64 a0_8, .int .i64 a0_9, .slice A0_10 l0_10.length c0_10]) (t := 36) ?hr ?_; (case hd => rfl); (case hg => rfl); (case hr => first | (go_simp; done) | (go_simp; rfl)); intro gb hg w3 hbox hb; have HB := Aside0.mk hb; have BK := Aside0.mk hbox; have GE := Aside0.mk (by rw [hg]; exact Nat.le_refl _ : w.heap.size ≤ gb); clear hb hbox hg; have hcz0 : w3.cell? ⟨gb, 0, none⟩ = some (.slice A0_0 l0_0.length c0_0) := (blk_cell BK.out 0).trans rfl; have hcz1 : w3.cell? ⟨gb, 1, none⟩ = some (.int .i64 a0_1) := (blk_cell BK.out 1).trans rfl; have hcz2 : w3.cell? ⟨gb, 2, none⟩ = some (.string a0_2) := (blk_cell BK.out 2).trans rfl; have hcz3 : w3.cell? ⟨gb, 3, none⟩ = some (.int .i64 a0_3) := (blk_cell BK.out 3).trans rfl; have hcz4 : w3.cell? ⟨gb, 4, none⟩ = some (.slice A0_4 l0_4.length c0_4) := (blk_cell BK.out 4).trans rfl; have hcz5 : w3.cell? ⟨gb, 5, none⟩ = some (.int .i64 a0_5) := (blk_cell BK.out 5).trans rfl; have hcz6 : w3.cell? ⟨gb, 6, none⟩ = some (.bool a0_6) := (blk_cell BK.out 6).trans rfl; have hcz7 : w3.cell? ⟨gb, 7, none⟩ = some (.int .i64 a0_7) := (blk_cell BK.out 7).trans rfl; have hcz8 : w3.cell? ⟨gb, 8, none⟩ = some (.int .i64 a0_8) := (blk_cell BK.out 8).trans rfl; have hcz9 : w3.cell? ⟨gb, 9, none⟩ = some (.int .i64 a0_9) := (blk_cell BK.out 9).trans rfl; have hcz10 : w3.cell? ⟨gb, 10, none⟩ = some (.slice A0_10 l0_10.length c0_10) := (blk_cell BK.out 10).trans rfl) | ((with_reducible refine gate_callee (f := 59) rfl ?_); (try (refine gate_guard (by rfl) ?_; dsimp only)); refine goesL_ (some 12) rfl rfl Try.func59 (by kernel_rfl) rfl #[.slice A0_0 l0_0.length c0_0, .agg #[.int .i64 a0_1, .string a0_2]] rfl (by (try simp only [List.map_toArray, List.map_cons, List.map_nil]); first | done | rfl) ?_; (with_reducible refine (impl_rowed.calls k _ _ l0_0 a0_1 a0_2 true _ ?side1 hc0_0 h1.out).mono ?_); (case side1 => exact Kd.C_below hr0_0 HB.out); rintro e w4 ⟨rfl, hb⟩; refine ⟨_, rfl, ?_⟩; have HB4 := Aside0.mk (below_step HB.out hb); have BK4 := Aside0.mk (blk_below BK.out hb); clear hb HB BK; clear hcz0 hcz1 hcz2 hcz3 hcz4 hcz5 hcz6 hcz7 hcz8 hcz9 hcz10; have hcy0 : w4.cell? ⟨gb, 0, none⟩ = some (.slice A0_0 l0_0.length c0_0) := (blk_cell BK4.out 0).trans rfl; have hcy1 : w4.cell? ⟨gb, 1, none⟩ = some (.int .i64 a0_1) := (blk_cell BK4.out 1).trans rfl; have hcy2 : w4.cell? ⟨gb, 2, none⟩ = some (.string a0_2) := (blk_cell BK4.out 2).trans rfl; have hcy3 : w4.cell? ⟨gb, 3, none⟩ = some (.int .i64 a0_3) := (blk_cell BK4.out 3).trans rfl; have hcy4 : w4.cell? ⟨gb, 4, none⟩ = some (.slice A0_4 l0_4.length c0_4) := (blk_cell BK4.out 4).trans rfl; have hcy5 : w4.cell? ⟨gb, 5, none⟩ = some (.int .i64 a0_5) := (blk_cell BK4.out 5).trans rfl; have hcy6 : w4.cell? ⟨gb, 6, none⟩ = some (.bool a0_6) := (blk_cell BK4.out 6).trans rfl; have hcy7 : w4.cell? ⟨gb, 7, none⟩ = some (.int .i64 a0_7) := (blk_cell BK4.out 7).trans rfl; have hcy8 : w4.cell? ⟨gb, 8, none⟩ = some (.int .i64 a0_8) := (blk_cell BK4.out 8).trans rfl; have hcy9 : w4.cell? ⟨gb, 9, none⟩ = some (.int .i64 a0_9) := (blk_cell BK4.out 9).trans rfl; have hcy10 : w4.cell? ⟨gb, 10, none⟩ = some (.slice A0_10 l0_10.length c0_10) := (blk_cell BK4.out 10).trans rfl) | (go_at_call 64; (try simp only [i64_w, i32_w]); (with_reducible refine (impl_within.calls a0_3 0 40 false _ h2.out).mono ?_); rintro e w' ⟨rfl, ⟨nd, rfl⟩⟩))
   go_ret
   exact ⟨rfl, by repeat (first | (with_reducible first | exact HB4.out | exact HB.out | apply below_alloc | apply pw_below_drewN | apply below_drew1) | exact HB4.out | exact HB.out)⟩

set_option maxHeartbeats 80000000 in
set_option maxRecDepth 100000 in
theorem mok_3 (k : Nat) (A0_0 : Option Addr) (c0_0 : Nat) (l0_0 : List Bool) (a0_1 : Int) (a0_2 : ByteArray) (a0_3 : Int) (A0_4 : Option Addr) (c0_4 : Nat) (l0_4 : List Int) (a0_5 : Int) (a0_6 : Bool) (a0_7 : Int) (a0_8 : Int) (a0_9 : Int) (A0_10 : Option Addr) (c0_10 : Nat) (l0_10 : List (S86)) (w : World) (hr0_0 : Kd.C Kd.bool w A0_0 l0_0.length l0_0) (hc0_0 : l0_0.length ≤ c0_0) (hr0_4 : Kd.C (Kd.int .i64) w A0_4 l0_4.length l0_4) (hc0_4 : l0_4.length ≤ c0_4) (hr0_10 : Kd.C k86 w A0_10 l0_10.length l0_10) (hc0_10 : l0_10.length ≤ c0_10) (h1 : Aside0 (impl_rowed.f k l0_0 a0_1 a0_2 = some true)) (h2 : Aside0 (impl_within.f a0_3 0 40 = some true)) (gm : decide ((l0_10.length : Int) > a0_3) = true) :
  Calls Try.prog 32 #[.agg #[.slice A0_0 l0_0.length c0_0, .int .i64 a0_1, .string a0_2, .int .i64 a0_3, .slice A0_4 l0_4.length c0_4, .int .i64 a0_5, .bool a0_6, .int .i64 a0_7, .int .i64 a0_8, .int .i64 a0_9, .slice A0_10 l0_10.length c0_10]] w fun e w' => e = .returned (.bool false) ∧ Below w.heap.size w w' := by
   have gm1 : decide (a0_3 < (l0_10.length : Int)) = true := gm
   go_enter Try.func32, Try.ntmps32
   go_wp2_with (first | ((with_reducible refine gate_dst (N := 1) rfl ?_); refine box_event ?hg (N := 1) ?hd (cs := #[.slice A0_0 l0_0.length c0_0, .int .i64 a0_1, .string a0_2, .int .i64 a0_3, .slice A0_4 l0_4.length c0_4, .int .i64 a0_5, .bool a0_6, .int .i64 a0_7, .int .i64 a0_8, .int .i64 a0_9, .slice A0_10 l0_10.length c0_10]) (t := 36) ?hr ?_; (case hd => rfl); (case hg => rfl); (case hr => first | (go_simp; done) | (go_simp; rfl)); intro gb hg w3 hbox hb; have HB := Aside0.mk hb; have BK := Aside0.mk hbox; have GE := Aside0.mk (by rw [hg]; exact Nat.le_refl _ : w.heap.size ≤ gb); clear hb hbox hg; have hcz0 : w3.cell? ⟨gb, 0, none⟩ = some (.slice A0_0 l0_0.length c0_0) := (blk_cell BK.out 0).trans rfl; have hcz1 : w3.cell? ⟨gb, 1, none⟩ = some (.int .i64 a0_1) := (blk_cell BK.out 1).trans rfl; have hcz2 : w3.cell? ⟨gb, 2, none⟩ = some (.string a0_2) := (blk_cell BK.out 2).trans rfl; have hcz3 : w3.cell? ⟨gb, 3, none⟩ = some (.int .i64 a0_3) := (blk_cell BK.out 3).trans rfl; have hcz4 : w3.cell? ⟨gb, 4, none⟩ = some (.slice A0_4 l0_4.length c0_4) := (blk_cell BK.out 4).trans rfl; have hcz5 : w3.cell? ⟨gb, 5, none⟩ = some (.int .i64 a0_5) := (blk_cell BK.out 5).trans rfl; have hcz6 : w3.cell? ⟨gb, 6, none⟩ = some (.bool a0_6) := (blk_cell BK.out 6).trans rfl; have hcz7 : w3.cell? ⟨gb, 7, none⟩ = some (.int .i64 a0_7) := (blk_cell BK.out 7).trans rfl; have hcz8 : w3.cell? ⟨gb, 8, none⟩ = some (.int .i64 a0_8) := (blk_cell BK.out 8).trans rfl; have hcz9 : w3.cell? ⟨gb, 9, none⟩ = some (.int .i64 a0_9) := (blk_cell BK.out 9).trans rfl; have hcz10 : w3.cell? ⟨gb, 10, none⟩ = some (.slice A0_10 l0_10.length c0_10) := (blk_cell BK.out 10).trans rfl) | ((with_reducible refine gate_callee (f := 59) rfl ?_); (try (refine gate_guard (by rfl) ?_; dsimp only)); refine goesL_ (some 12) rfl rfl Try.func59 (by kernel_rfl) rfl #[.slice A0_0 l0_0.length c0_0, .agg #[.int .i64 a0_1, .string a0_2]] rfl (by (try simp only [List.map_toArray, List.map_cons, List.map_nil]); first | done | rfl) ?_; (with_reducible refine (impl_rowed.calls k _ _ l0_0 a0_1 a0_2 true _ ?side1 hc0_0 h1.out).mono ?_); (case side1 => exact Kd.C_below hr0_0 HB.out); rintro e w4 ⟨rfl, hb⟩; refine ⟨_, rfl, ?_⟩; have HB4 := Aside0.mk (below_step HB.out hb); have BK4 := Aside0.mk (blk_below BK.out hb); clear hb HB BK; clear hcz0 hcz1 hcz2 hcz3 hcz4 hcz5 hcz6 hcz7 hcz8 hcz9 hcz10; have hcy0 : w4.cell? ⟨gb, 0, none⟩ = some (.slice A0_0 l0_0.length c0_0) := (blk_cell BK4.out 0).trans rfl; have hcy1 : w4.cell? ⟨gb, 1, none⟩ = some (.int .i64 a0_1) := (blk_cell BK4.out 1).trans rfl; have hcy2 : w4.cell? ⟨gb, 2, none⟩ = some (.string a0_2) := (blk_cell BK4.out 2).trans rfl; have hcy3 : w4.cell? ⟨gb, 3, none⟩ = some (.int .i64 a0_3) := (blk_cell BK4.out 3).trans rfl; have hcy4 : w4.cell? ⟨gb, 4, none⟩ = some (.slice A0_4 l0_4.length c0_4) := (blk_cell BK4.out 4).trans rfl; have hcy5 : w4.cell? ⟨gb, 5, none⟩ = some (.int .i64 a0_5) := (blk_cell BK4.out 5).trans rfl; have hcy6 : w4.cell? ⟨gb, 6, none⟩ = some (.bool a0_6) := (blk_cell BK4.out 6).trans rfl; have hcy7 : w4.cell? ⟨gb, 7, none⟩ = some (.int .i64 a0_7) := (blk_cell BK4.out 7).trans rfl; have hcy8 : w4.cell? ⟨gb, 8, none⟩ = some (.int .i64 a0_8) := (blk_cell BK4.out 8).trans rfl; have hcy9 : w4.cell? ⟨gb, 9, none⟩ = some (.int .i64 a0_9) := (blk_cell BK4.out 9).trans rfl; have hcy10 : w4.cell? ⟨gb, 10, none⟩ = some (.slice A0_10 l0_10.length c0_10) := (blk_cell BK4.out 10).trans rfl) | (go_at_call 64; (try simp only [i64_w, i32_w]); (with_reducible refine (impl_within.calls a0_3 0 40 true _ h2.out).mono ?_); rintro e w' ⟨rfl, ⟨nd, rfl⟩⟩))
   go_ret
   exact ⟨rfl, by repeat (first | (with_reducible first | exact HB4.out | exact HB.out | apply below_alloc | apply pw_below_drewN | apply below_drew1) | exact HB4.out | exact HB.out)⟩

set_option maxHeartbeats 80000000 in
set_option maxRecDepth 100000 in
theorem mok_4 (k : Nat) (A0_0 : Option Addr) (c0_0 : Nat) (l0_0 : List Bool) (a0_1 : Int) (a0_2 : ByteArray) (a0_3 : Int) (A0_4 : Option Addr) (c0_4 : Nat) (l0_4 : List Int) (a0_5 : Int) (a0_6 : Bool) (a0_7 : Int) (a0_8 : Int) (a0_9 : Int) (A0_10 : Option Addr) (c0_10 : Nat) (l0_10 : List (S86)) (w : World) (hr0_0 : Kd.C Kd.bool w A0_0 l0_0.length l0_0) (hc0_0 : l0_0.length ≤ c0_0) (hr0_4 : Kd.C (Kd.int .i64) w A0_4 l0_4.length l0_4) (hc0_4 : l0_4.length ≤ c0_4) (hr0_10 : Kd.C k86 w A0_10 l0_10.length l0_10) (hc0_10 : l0_10.length ≤ c0_10) (h1 : Aside0 (impl_rowed.f k l0_0 a0_1 a0_2 = some true)) (h2 : Aside0 (impl_within.f a0_3 0 40 = some true)) (gm : decide ((l0_10.length : Int) > a0_3) = false) (gv : decide ((l0_4.length : Int) > a0_1) = true) :
  Calls Try.prog 32 #[.agg #[.slice A0_0 l0_0.length c0_0, .int .i64 a0_1, .string a0_2, .int .i64 a0_3, .slice A0_4 l0_4.length c0_4, .int .i64 a0_5, .bool a0_6, .int .i64 a0_7, .int .i64 a0_8, .int .i64 a0_9, .slice A0_10 l0_10.length c0_10]] w fun e w' => e = .returned (.bool false) ∧ Below w.heap.size w w' := by
   have gm1 : decide (a0_3 < (l0_10.length : Int)) = false := gm; have gv1 : decide (a0_1 < (l0_4.length : Int)) = true := gv
   go_enter Try.func32, Try.ntmps32
   go_wp2_with (first | ((with_reducible refine gate_dst (N := 1) rfl ?_); refine box_event ?hg (N := 1) ?hd (cs := #[.slice A0_0 l0_0.length c0_0, .int .i64 a0_1, .string a0_2, .int .i64 a0_3, .slice A0_4 l0_4.length c0_4, .int .i64 a0_5, .bool a0_6, .int .i64 a0_7, .int .i64 a0_8, .int .i64 a0_9, .slice A0_10 l0_10.length c0_10]) (t := 36) ?hr ?_; (case hd => rfl); (case hg => rfl); (case hr => first | (go_simp; done) | (go_simp; rfl)); intro gb hg w3 hbox hb; have HB := Aside0.mk hb; have BK := Aside0.mk hbox; have GE := Aside0.mk (by rw [hg]; exact Nat.le_refl _ : w.heap.size ≤ gb); clear hb hbox hg; have hcz0 : w3.cell? ⟨gb, 0, none⟩ = some (.slice A0_0 l0_0.length c0_0) := (blk_cell BK.out 0).trans rfl; have hcz1 : w3.cell? ⟨gb, 1, none⟩ = some (.int .i64 a0_1) := (blk_cell BK.out 1).trans rfl; have hcz2 : w3.cell? ⟨gb, 2, none⟩ = some (.string a0_2) := (blk_cell BK.out 2).trans rfl; have hcz3 : w3.cell? ⟨gb, 3, none⟩ = some (.int .i64 a0_3) := (blk_cell BK.out 3).trans rfl; have hcz4 : w3.cell? ⟨gb, 4, none⟩ = some (.slice A0_4 l0_4.length c0_4) := (blk_cell BK.out 4).trans rfl; have hcz5 : w3.cell? ⟨gb, 5, none⟩ = some (.int .i64 a0_5) := (blk_cell BK.out 5).trans rfl; have hcz6 : w3.cell? ⟨gb, 6, none⟩ = some (.bool a0_6) := (blk_cell BK.out 6).trans rfl; have hcz7 : w3.cell? ⟨gb, 7, none⟩ = some (.int .i64 a0_7) := (blk_cell BK.out 7).trans rfl; have hcz8 : w3.cell? ⟨gb, 8, none⟩ = some (.int .i64 a0_8) := (blk_cell BK.out 8).trans rfl; have hcz9 : w3.cell? ⟨gb, 9, none⟩ = some (.int .i64 a0_9) := (blk_cell BK.out 9).trans rfl; have hcz10 : w3.cell? ⟨gb, 10, none⟩ = some (.slice A0_10 l0_10.length c0_10) := (blk_cell BK.out 10).trans rfl) | ((with_reducible refine gate_callee (f := 59) rfl ?_); (try (refine gate_guard (by rfl) ?_; dsimp only)); refine goesL_ (some 12) rfl rfl Try.func59 (by kernel_rfl) rfl #[.slice A0_0 l0_0.length c0_0, .agg #[.int .i64 a0_1, .string a0_2]] rfl (by (try simp only [List.map_toArray, List.map_cons, List.map_nil]); first | done | rfl) ?_; (with_reducible refine (impl_rowed.calls k _ _ l0_0 a0_1 a0_2 true _ ?side1 hc0_0 h1.out).mono ?_); (case side1 => exact Kd.C_below hr0_0 HB.out); rintro e w4 ⟨rfl, hb⟩; refine ⟨_, rfl, ?_⟩; have HB4 := Aside0.mk (below_step HB.out hb); have BK4 := Aside0.mk (blk_below BK.out hb); clear hb HB BK; clear hcz0 hcz1 hcz2 hcz3 hcz4 hcz5 hcz6 hcz7 hcz8 hcz9 hcz10; have hcy0 : w4.cell? ⟨gb, 0, none⟩ = some (.slice A0_0 l0_0.length c0_0) := (blk_cell BK4.out 0).trans rfl; have hcy1 : w4.cell? ⟨gb, 1, none⟩ = some (.int .i64 a0_1) := (blk_cell BK4.out 1).trans rfl; have hcy2 : w4.cell? ⟨gb, 2, none⟩ = some (.string a0_2) := (blk_cell BK4.out 2).trans rfl; have hcy3 : w4.cell? ⟨gb, 3, none⟩ = some (.int .i64 a0_3) := (blk_cell BK4.out 3).trans rfl; have hcy4 : w4.cell? ⟨gb, 4, none⟩ = some (.slice A0_4 l0_4.length c0_4) := (blk_cell BK4.out 4).trans rfl; have hcy5 : w4.cell? ⟨gb, 5, none⟩ = some (.int .i64 a0_5) := (blk_cell BK4.out 5).trans rfl; have hcy6 : w4.cell? ⟨gb, 6, none⟩ = some (.bool a0_6) := (blk_cell BK4.out 6).trans rfl; have hcy7 : w4.cell? ⟨gb, 7, none⟩ = some (.int .i64 a0_7) := (blk_cell BK4.out 7).trans rfl; have hcy8 : w4.cell? ⟨gb, 8, none⟩ = some (.int .i64 a0_8) := (blk_cell BK4.out 8).trans rfl; have hcy9 : w4.cell? ⟨gb, 9, none⟩ = some (.int .i64 a0_9) := (blk_cell BK4.out 9).trans rfl; have hcy10 : w4.cell? ⟨gb, 10, none⟩ = some (.slice A0_10 l0_10.length c0_10) := (blk_cell BK4.out 10).trans rfl) | (go_at_call 64; (try simp only [i64_w, i32_w]); (with_reducible refine (impl_within.calls a0_3 0 40 true _ h2.out).mono ?_); rintro e w' ⟨rfl, ⟨nd, rfl⟩⟩))
   go_ret
   exact ⟨rfl, by repeat (first | (with_reducible first | exact HB4.out | exact HB.out | apply below_alloc | apply pw_below_drewN | apply below_drew1) | exact HB4.out | exact HB.out)⟩

set_option maxHeartbeats 80000000 in
set_option maxRecDepth 100000 in
theorem mok_5 (k : Nat) (A0_0 : Option Addr) (c0_0 : Nat) (l0_0 : List Bool) (a0_1 : Int) (a0_2 : ByteArray) (a0_3 : Int) (A0_4 : Option Addr) (c0_4 : Nat) (l0_4 : List Int) (a0_5 : Int) (a0_6 : Bool) (a0_7 : Int) (a0_8 : Int) (a0_9 : Int) (A0_10 : Option Addr) (c0_10 : Nat) (l0_10 : List (S86)) (w : World) (hr0_0 : Kd.C Kd.bool w A0_0 l0_0.length l0_0) (hc0_0 : l0_0.length ≤ c0_0) (hr0_4 : Kd.C (Kd.int .i64) w A0_4 l0_4.length l0_4) (hc0_4 : l0_4.length ≤ c0_4) (hr0_10 : Kd.C k86 w A0_10 l0_10.length l0_10) (hc0_10 : l0_10.length ≤ c0_10) (h1 : Aside0 (impl_rowed.f k l0_0 a0_1 a0_2 = some true)) (h2 : Aside0 (impl_within.f a0_3 0 40 = some true)) (gm : decide ((l0_10.length : Int) > a0_3) = false) (gv : decide ((l0_4.length : Int) > a0_1) = false) (pv : Int) (h3 : Aside0 (impl_placeOfBits.f k l0_4 = some (pv, false))) :
  Calls Try.prog 32 #[.agg #[.slice A0_0 l0_0.length c0_0, .int .i64 a0_1, .string a0_2, .int .i64 a0_3, .slice A0_4 l0_4.length c0_4, .int .i64 a0_5, .bool a0_6, .int .i64 a0_7, .int .i64 a0_8, .int .i64 a0_9, .slice A0_10 l0_10.length c0_10]] w fun e w' => e = .returned (.bool false) ∧ Below w.heap.size w w' := by
   have gm1 : decide (a0_3 < (l0_10.length : Int)) = false := gm; have gv1 : decide (a0_1 < (l0_4.length : Int)) = false := gv
   go_enter Try.func32, Try.ntmps32
   go_wp2_with (first | ((with_reducible refine gate_dst (N := 1) rfl ?_); refine box_event ?hg (N := 1) ?hd (cs := #[.slice A0_0 l0_0.length c0_0, .int .i64 a0_1, .string a0_2, .int .i64 a0_3, .slice A0_4 l0_4.length c0_4, .int .i64 a0_5, .bool a0_6, .int .i64 a0_7, .int .i64 a0_8, .int .i64 a0_9, .slice A0_10 l0_10.length c0_10]) (t := 36) ?hr ?_; (case hd => rfl); (case hg => rfl); (case hr => first | (go_simp; done) | (go_simp; rfl)); intro gb hg w3 hbox hb; have HB := Aside0.mk hb; have BK := Aside0.mk hbox; have GE := Aside0.mk (by rw [hg]; exact Nat.le_refl _ : w.heap.size ≤ gb); clear hb hbox hg; have hcz0 : w3.cell? ⟨gb, 0, none⟩ = some (.slice A0_0 l0_0.length c0_0) := (blk_cell BK.out 0).trans rfl; have hcz1 : w3.cell? ⟨gb, 1, none⟩ = some (.int .i64 a0_1) := (blk_cell BK.out 1).trans rfl; have hcz2 : w3.cell? ⟨gb, 2, none⟩ = some (.string a0_2) := (blk_cell BK.out 2).trans rfl; have hcz3 : w3.cell? ⟨gb, 3, none⟩ = some (.int .i64 a0_3) := (blk_cell BK.out 3).trans rfl; have hcz4 : w3.cell? ⟨gb, 4, none⟩ = some (.slice A0_4 l0_4.length c0_4) := (blk_cell BK.out 4).trans rfl; have hcz5 : w3.cell? ⟨gb, 5, none⟩ = some (.int .i64 a0_5) := (blk_cell BK.out 5).trans rfl; have hcz6 : w3.cell? ⟨gb, 6, none⟩ = some (.bool a0_6) := (blk_cell BK.out 6).trans rfl; have hcz7 : w3.cell? ⟨gb, 7, none⟩ = some (.int .i64 a0_7) := (blk_cell BK.out 7).trans rfl; have hcz8 : w3.cell? ⟨gb, 8, none⟩ = some (.int .i64 a0_8) := (blk_cell BK.out 8).trans rfl; have hcz9 : w3.cell? ⟨gb, 9, none⟩ = some (.int .i64 a0_9) := (blk_cell BK.out 9).trans rfl; have hcz10 : w3.cell? ⟨gb, 10, none⟩ = some (.slice A0_10 l0_10.length c0_10) := (blk_cell BK.out 10).trans rfl) | ((with_reducible refine gate_callee (f := 59) rfl ?_); (try (refine gate_guard (by rfl) ?_; dsimp only)); refine goesL_ (some 12) rfl rfl Try.func59 (by kernel_rfl) rfl #[.slice A0_0 l0_0.length c0_0, .agg #[.int .i64 a0_1, .string a0_2]] rfl (by (try simp only [List.map_toArray, List.map_cons, List.map_nil]); first | done | rfl) ?_; (with_reducible refine (impl_rowed.calls k _ _ l0_0 a0_1 a0_2 true _ ?side1 hc0_0 h1.out).mono ?_); (case side1 => exact Kd.C_below hr0_0 HB.out); rintro e w4 ⟨rfl, hb⟩; refine ⟨_, rfl, ?_⟩; have HB4 := Aside0.mk (below_step HB.out hb); have BK4 := Aside0.mk (blk_below BK.out hb); clear hb HB BK; clear hcz0 hcz1 hcz2 hcz3 hcz4 hcz5 hcz6 hcz7 hcz8 hcz9 hcz10; have hcy0 : w4.cell? ⟨gb, 0, none⟩ = some (.slice A0_0 l0_0.length c0_0) := (blk_cell BK4.out 0).trans rfl; have hcy1 : w4.cell? ⟨gb, 1, none⟩ = some (.int .i64 a0_1) := (blk_cell BK4.out 1).trans rfl; have hcy2 : w4.cell? ⟨gb, 2, none⟩ = some (.string a0_2) := (blk_cell BK4.out 2).trans rfl; have hcy3 : w4.cell? ⟨gb, 3, none⟩ = some (.int .i64 a0_3) := (blk_cell BK4.out 3).trans rfl; have hcy4 : w4.cell? ⟨gb, 4, none⟩ = some (.slice A0_4 l0_4.length c0_4) := (blk_cell BK4.out 4).trans rfl; have hcy5 : w4.cell? ⟨gb, 5, none⟩ = some (.int .i64 a0_5) := (blk_cell BK4.out 5).trans rfl; have hcy6 : w4.cell? ⟨gb, 6, none⟩ = some (.bool a0_6) := (blk_cell BK4.out 6).trans rfl; have hcy7 : w4.cell? ⟨gb, 7, none⟩ = some (.int .i64 a0_7) := (blk_cell BK4.out 7).trans rfl; have hcy8 : w4.cell? ⟨gb, 8, none⟩ = some (.int .i64 a0_8) := (blk_cell BK4.out 8).trans rfl; have hcy9 : w4.cell? ⟨gb, 9, none⟩ = some (.int .i64 a0_9) := (blk_cell BK4.out 9).trans rfl; have hcy10 : w4.cell? ⟨gb, 10, none⟩ = some (.slice A0_10 l0_10.length c0_10) := (blk_cell BK4.out 10).trans rfl) | (go_at_call 64; (try simp only [i64_w, i32_w]); (with_reducible refine (impl_within.calls a0_3 0 40 true _ h2.out).mono ?_); rintro e w' ⟨rfl, ⟨nd, rfl⟩⟩) | (go_at_call 77; (try simp only [i64_w, i32_w]); refine (impl_placeOfBits.calls k _ _ l0_4 pv false _ ?_ hc0_4 h3.out).mono ?_; exact Kd.C_below hr0_4 (pw_below_drewN HB4.out _); rintro e w' ⟨rfl, ⟨nd, rfl⟩⟩))
   go_ret
   exact ⟨rfl, by repeat (first | (with_reducible first | exact HB4.out | exact HB.out | apply below_alloc | apply pw_below_drewN | apply below_drew1) | exact HB4.out | exact HB.out)⟩

set_option maxHeartbeats 80000000 in
set_option maxRecDepth 100000 in
theorem mok_6 (k : Nat) (A0_0 : Option Addr) (c0_0 : Nat) (l0_0 : List Bool) (a0_1 : Int) (a0_2 : ByteArray) (a0_3 : Int) (A0_4 : Option Addr) (c0_4 : Nat) (l0_4 : List Int) (a0_5 : Int) (a0_6 : Bool) (a0_7 : Int) (a0_8 : Int) (a0_9 : Int) (A0_10 : Option Addr) (c0_10 : Nat) (l0_10 : List (S86)) (w : World) (hr0_0 : Kd.C Kd.bool w A0_0 l0_0.length l0_0) (hc0_0 : l0_0.length ≤ c0_0) (hr0_4 : Kd.C (Kd.int .i64) w A0_4 l0_4.length l0_4) (hc0_4 : l0_4.length ≤ c0_4) (hr0_10 : Kd.C k86 w A0_10 l0_10.length l0_10) (hc0_10 : l0_10.length ≤ c0_10) (h1 : Aside0 (impl_rowed.f k l0_0 a0_1 a0_2 = some true)) (h2 : Aside0 (impl_within.f a0_3 0 40 = some true)) (gm : decide ((l0_10.length : Int) > a0_3) = false) (gv : decide ((l0_4.length : Int) > a0_1) = false) (pv : Int) (h3 : Aside0 (impl_placeOfBits.f k l0_4 = some (pv, true))) (h4 : Aside0 (impl_within.f a0_5 (-1) 1 = some false)) :
  Calls Try.prog 32 #[.agg #[.slice A0_0 l0_0.length c0_0, .int .i64 a0_1, .string a0_2, .int .i64 a0_3, .slice A0_4 l0_4.length c0_4, .int .i64 a0_5, .bool a0_6, .int .i64 a0_7, .int .i64 a0_8, .int .i64 a0_9, .slice A0_10 l0_10.length c0_10]] w fun e w' => e = .returned (.bool false) ∧ Below w.heap.size w w' := by
   have gm1 : decide (a0_3 < (l0_10.length : Int)) = false := gm; have gv1 : decide (a0_1 < (l0_4.length : Int)) = false := gv
   go_enter Try.func32, Try.ntmps32
   go_wp2_with (first | ((with_reducible refine gate_dst (N := 1) rfl ?_); refine box_event ?hg (N := 1) ?hd (cs := #[.slice A0_0 l0_0.length c0_0, .int .i64 a0_1, .string a0_2, .int .i64 a0_3, .slice A0_4 l0_4.length c0_4, .int .i64 a0_5, .bool a0_6, .int .i64 a0_7, .int .i64 a0_8, .int .i64 a0_9, .slice A0_10 l0_10.length c0_10]) (t := 36) ?hr ?_; (case hd => rfl); (case hg => rfl); (case hr => first | (go_simp; done) | (go_simp; rfl)); intro gb hg w3 hbox hb; have HB := Aside0.mk hb; have BK := Aside0.mk hbox; have GE := Aside0.mk (by rw [hg]; exact Nat.le_refl _ : w.heap.size ≤ gb); clear hb hbox hg; have hcz0 : w3.cell? ⟨gb, 0, none⟩ = some (.slice A0_0 l0_0.length c0_0) := (blk_cell BK.out 0).trans rfl; have hcz1 : w3.cell? ⟨gb, 1, none⟩ = some (.int .i64 a0_1) := (blk_cell BK.out 1).trans rfl; have hcz2 : w3.cell? ⟨gb, 2, none⟩ = some (.string a0_2) := (blk_cell BK.out 2).trans rfl; have hcz3 : w3.cell? ⟨gb, 3, none⟩ = some (.int .i64 a0_3) := (blk_cell BK.out 3).trans rfl; have hcz4 : w3.cell? ⟨gb, 4, none⟩ = some (.slice A0_4 l0_4.length c0_4) := (blk_cell BK.out 4).trans rfl; have hcz5 : w3.cell? ⟨gb, 5, none⟩ = some (.int .i64 a0_5) := (blk_cell BK.out 5).trans rfl; have hcz6 : w3.cell? ⟨gb, 6, none⟩ = some (.bool a0_6) := (blk_cell BK.out 6).trans rfl; have hcz7 : w3.cell? ⟨gb, 7, none⟩ = some (.int .i64 a0_7) := (blk_cell BK.out 7).trans rfl; have hcz8 : w3.cell? ⟨gb, 8, none⟩ = some (.int .i64 a0_8) := (blk_cell BK.out 8).trans rfl; have hcz9 : w3.cell? ⟨gb, 9, none⟩ = some (.int .i64 a0_9) := (blk_cell BK.out 9).trans rfl; have hcz10 : w3.cell? ⟨gb, 10, none⟩ = some (.slice A0_10 l0_10.length c0_10) := (blk_cell BK.out 10).trans rfl) | ((with_reducible refine gate_callee (f := 59) rfl ?_); (try (refine gate_guard (by rfl) ?_; dsimp only)); refine goesL_ (some 12) rfl rfl Try.func59 (by kernel_rfl) rfl #[.slice A0_0 l0_0.length c0_0, .agg #[.int .i64 a0_1, .string a0_2]] rfl (by (try simp only [List.map_toArray, List.map_cons, List.map_nil]); first | done | rfl) ?_; (with_reducible refine (impl_rowed.calls k _ _ l0_0 a0_1 a0_2 true _ ?side1 hc0_0 h1.out).mono ?_); (case side1 => exact Kd.C_below hr0_0 HB.out); rintro e w4 ⟨rfl, hb⟩; refine ⟨_, rfl, ?_⟩; have HB4 := Aside0.mk (below_step HB.out hb); have BK4 := Aside0.mk (blk_below BK.out hb); clear hb HB BK; clear hcz0 hcz1 hcz2 hcz3 hcz4 hcz5 hcz6 hcz7 hcz8 hcz9 hcz10; have hcy0 : w4.cell? ⟨gb, 0, none⟩ = some (.slice A0_0 l0_0.length c0_0) := (blk_cell BK4.out 0).trans rfl; have hcy1 : w4.cell? ⟨gb, 1, none⟩ = some (.int .i64 a0_1) := (blk_cell BK4.out 1).trans rfl; have hcy2 : w4.cell? ⟨gb, 2, none⟩ = some (.string a0_2) := (blk_cell BK4.out 2).trans rfl; have hcy3 : w4.cell? ⟨gb, 3, none⟩ = some (.int .i64 a0_3) := (blk_cell BK4.out 3).trans rfl; have hcy4 : w4.cell? ⟨gb, 4, none⟩ = some (.slice A0_4 l0_4.length c0_4) := (blk_cell BK4.out 4).trans rfl; have hcy5 : w4.cell? ⟨gb, 5, none⟩ = some (.int .i64 a0_5) := (blk_cell BK4.out 5).trans rfl; have hcy6 : w4.cell? ⟨gb, 6, none⟩ = some (.bool a0_6) := (blk_cell BK4.out 6).trans rfl; have hcy7 : w4.cell? ⟨gb, 7, none⟩ = some (.int .i64 a0_7) := (blk_cell BK4.out 7).trans rfl; have hcy8 : w4.cell? ⟨gb, 8, none⟩ = some (.int .i64 a0_8) := (blk_cell BK4.out 8).trans rfl; have hcy9 : w4.cell? ⟨gb, 9, none⟩ = some (.int .i64 a0_9) := (blk_cell BK4.out 9).trans rfl; have hcy10 : w4.cell? ⟨gb, 10, none⟩ = some (.slice A0_10 l0_10.length c0_10) := (blk_cell BK4.out 10).trans rfl) | (go_at_call 64; (try simp only [i64_w, i32_w]); (with_reducible refine (impl_within.calls a0_3 0 40 true _ h2.out).mono ?_); rintro e w' ⟨rfl, ⟨nd, rfl⟩⟩) | (go_at_call 77; (try simp only [i64_w, i32_w]); refine (impl_placeOfBits.calls k _ _ l0_4 pv true _ ?_ hc0_4 h3.out).mono ?_; exact Kd.C_below hr0_4 (pw_below_drewN HB4.out _); rintro e w' ⟨rfl, ⟨nd, rfl⟩⟩) | (go_at_call 64; (try simp only [i64_w, i32_w]); (with_reducible refine (impl_within.calls a0_5 (-1) 1 false _ h4.out).mono ?_); rintro e w' ⟨rfl, ⟨nd, rfl⟩⟩))
   go_ret
   exact ⟨rfl, by repeat (first | (with_reducible first | exact HB4.out | exact HB.out | apply below_alloc | apply pw_below_drewN | apply below_drew1) | exact HB4.out | exact HB.out)⟩

set_option maxHeartbeats 80000000 in
set_option maxRecDepth 100000 in
theorem mok_7 (k : Nat) (A0_0 : Option Addr) (c0_0 : Nat) (l0_0 : List Bool) (a0_1 : Int) (a0_2 : ByteArray) (a0_3 : Int) (A0_4 : Option Addr) (c0_4 : Nat) (l0_4 : List Int) (a0_5 : Int) (a0_6 : Bool) (a0_7 : Int) (a0_8 : Int) (a0_9 : Int) (A0_10 : Option Addr) (c0_10 : Nat) (l0_10 : List (S86)) (w : World) (hr0_0 : Kd.C Kd.bool w A0_0 l0_0.length l0_0) (hc0_0 : l0_0.length ≤ c0_0) (hr0_4 : Kd.C (Kd.int .i64) w A0_4 l0_4.length l0_4) (hc0_4 : l0_4.length ≤ c0_4) (hr0_10 : Kd.C k86 w A0_10 l0_10.length l0_10) (hc0_10 : l0_10.length ≤ c0_10) (h1 : Aside0 (impl_rowed.f k l0_0 a0_1 a0_2 = some true)) (h2 : Aside0 (impl_within.f a0_3 0 40 = some true)) (gm : decide ((l0_10.length : Int) > a0_3) = false) (gv : decide ((l0_4.length : Int) > a0_1) = false) (pv : Int) (h3 : Aside0 (impl_placeOfBits.f k l0_4 = some (pv, true))) (h4 : Aside0 (impl_within.f a0_5 (-1) 1 = some true)) (g6 : a0_6 = true) (g5 : decide (a0_5 < 0) = true) :
  Calls Try.prog 32 #[.agg #[.slice A0_0 l0_0.length c0_0, .int .i64 a0_1, .string a0_2, .int .i64 a0_3, .slice A0_4 l0_4.length c0_4, .int .i64 a0_5, .bool a0_6, .int .i64 a0_7, .int .i64 a0_8, .int .i64 a0_9, .slice A0_10 l0_10.length c0_10]] w fun e w' => e = .returned (.bool false) ∧ Below w.heap.size w w' := by
   have gm1 : decide (a0_3 < (l0_10.length : Int)) = false := gm; have gv1 : decide (a0_1 < (l0_4.length : Int)) = false := gv
   subst g6
   go_enter Try.func32, Try.ntmps32
   go_wp2_with (first | ((with_reducible refine gate_dst (N := 1) rfl ?_); refine box_event ?hg (N := 1) ?hd (cs := #[.slice A0_0 l0_0.length c0_0, .int .i64 a0_1, .string a0_2, .int .i64 a0_3, .slice A0_4 l0_4.length c0_4, .int .i64 a0_5, .bool true, .int .i64 a0_7, .int .i64 a0_8, .int .i64 a0_9, .slice A0_10 l0_10.length c0_10]) (t := 36) ?hr ?_; (case hd => rfl); (case hg => rfl); (case hr => first | (go_simp; done) | (go_simp; rfl)); intro gb hg w3 hbox hb; have HB := Aside0.mk hb; have BK := Aside0.mk hbox; have GE := Aside0.mk (by rw [hg]; exact Nat.le_refl _ : w.heap.size ≤ gb); clear hb hbox hg; have hcz0 : w3.cell? ⟨gb, 0, none⟩ = some (.slice A0_0 l0_0.length c0_0) := (blk_cell BK.out 0).trans rfl; have hcz1 : w3.cell? ⟨gb, 1, none⟩ = some (.int .i64 a0_1) := (blk_cell BK.out 1).trans rfl; have hcz2 : w3.cell? ⟨gb, 2, none⟩ = some (.string a0_2) := (blk_cell BK.out 2).trans rfl; have hcz3 : w3.cell? ⟨gb, 3, none⟩ = some (.int .i64 a0_3) := (blk_cell BK.out 3).trans rfl; have hcz4 : w3.cell? ⟨gb, 4, none⟩ = some (.slice A0_4 l0_4.length c0_4) := (blk_cell BK.out 4).trans rfl; have hcz5 : w3.cell? ⟨gb, 5, none⟩ = some (.int .i64 a0_5) := (blk_cell BK.out 5).trans rfl; have hcz6 : w3.cell? ⟨gb, 6, none⟩ = some (.bool true) := (blk_cell BK.out 6).trans rfl; have hcz7 : w3.cell? ⟨gb, 7, none⟩ = some (.int .i64 a0_7) := (blk_cell BK.out 7).trans rfl; have hcz8 : w3.cell? ⟨gb, 8, none⟩ = some (.int .i64 a0_8) := (blk_cell BK.out 8).trans rfl; have hcz9 : w3.cell? ⟨gb, 9, none⟩ = some (.int .i64 a0_9) := (blk_cell BK.out 9).trans rfl; have hcz10 : w3.cell? ⟨gb, 10, none⟩ = some (.slice A0_10 l0_10.length c0_10) := (blk_cell BK.out 10).trans rfl) | ((with_reducible refine gate_callee (f := 59) rfl ?_); (try (refine gate_guard (by rfl) ?_; dsimp only)); refine goesL_ (some 12) rfl rfl Try.func59 (by kernel_rfl) rfl #[.slice A0_0 l0_0.length c0_0, .agg #[.int .i64 a0_1, .string a0_2]] rfl (by (try simp only [List.map_toArray, List.map_cons, List.map_nil]); first | done | rfl) ?_; (with_reducible refine (impl_rowed.calls k _ _ l0_0 a0_1 a0_2 true _ ?side1 hc0_0 h1.out).mono ?_); (case side1 => exact Kd.C_below hr0_0 HB.out); rintro e w4 ⟨rfl, hb⟩; refine ⟨_, rfl, ?_⟩; have HB4 := Aside0.mk (below_step HB.out hb); have BK4 := Aside0.mk (blk_below BK.out hb); clear hb HB BK; clear hcz0 hcz1 hcz2 hcz3 hcz4 hcz5 hcz6 hcz7 hcz8 hcz9 hcz10; have hcy0 : w4.cell? ⟨gb, 0, none⟩ = some (.slice A0_0 l0_0.length c0_0) := (blk_cell BK4.out 0).trans rfl; have hcy1 : w4.cell? ⟨gb, 1, none⟩ = some (.int .i64 a0_1) := (blk_cell BK4.out 1).trans rfl; have hcy2 : w4.cell? ⟨gb, 2, none⟩ = some (.string a0_2) := (blk_cell BK4.out 2).trans rfl; have hcy3 : w4.cell? ⟨gb, 3, none⟩ = some (.int .i64 a0_3) := (blk_cell BK4.out 3).trans rfl; have hcy4 : w4.cell? ⟨gb, 4, none⟩ = some (.slice A0_4 l0_4.length c0_4) := (blk_cell BK4.out 4).trans rfl; have hcy5 : w4.cell? ⟨gb, 5, none⟩ = some (.int .i64 a0_5) := (blk_cell BK4.out 5).trans rfl; have hcy6 : w4.cell? ⟨gb, 6, none⟩ = some (.bool true) := (blk_cell BK4.out 6).trans rfl; have hcy7 : w4.cell? ⟨gb, 7, none⟩ = some (.int .i64 a0_7) := (blk_cell BK4.out 7).trans rfl; have hcy8 : w4.cell? ⟨gb, 8, none⟩ = some (.int .i64 a0_8) := (blk_cell BK4.out 8).trans rfl; have hcy9 : w4.cell? ⟨gb, 9, none⟩ = some (.int .i64 a0_9) := (blk_cell BK4.out 9).trans rfl; have hcy10 : w4.cell? ⟨gb, 10, none⟩ = some (.slice A0_10 l0_10.length c0_10) := (blk_cell BK4.out 10).trans rfl) | (go_at_call 64; (try simp only [i64_w, i32_w]); (with_reducible refine (impl_within.calls a0_3 0 40 true _ h2.out).mono ?_); rintro e w' ⟨rfl, ⟨nd, rfl⟩⟩) | (go_at_call 77; (try simp only [i64_w, i32_w]); refine (impl_placeOfBits.calls k _ _ l0_4 pv true _ ?_ hc0_4 h3.out).mono ?_; exact Kd.C_below hr0_4 (pw_below_drewN HB4.out _); rintro e w' ⟨rfl, ⟨nd, rfl⟩⟩) | (go_at_call 64; (try simp only [i64_w, i32_w]); (with_reducible refine (impl_within.calls a0_5 (-1) 1 true _ h4.out).mono ?_); rintro e w' ⟨rfl, ⟨nd, rfl⟩⟩))
   go_ret
   exact ⟨rfl, by repeat (first | (with_reducible first | exact HB4.out | exact HB.out | apply below_alloc | apply pw_below_drewN | apply below_drew1) | exact HB4.out | exact HB.out)⟩

set_option maxHeartbeats 80000000 in
set_option maxRecDepth 100000 in
theorem mok_8 (k : Nat) (A0_0 : Option Addr) (c0_0 : Nat) (l0_0 : List Bool) (a0_1 : Int) (a0_2 : ByteArray) (a0_3 : Int) (A0_4 : Option Addr) (c0_4 : Nat) (l0_4 : List Int) (a0_5 : Int) (a0_6 : Bool) (a0_7 : Int) (a0_8 : Int) (a0_9 : Int) (A0_10 : Option Addr) (c0_10 : Nat) (l0_10 : List (S86)) (w : World) (hr0_0 : Kd.C Kd.bool w A0_0 l0_0.length l0_0) (hc0_0 : l0_0.length ≤ c0_0) (hr0_4 : Kd.C (Kd.int .i64) w A0_4 l0_4.length l0_4) (hc0_4 : l0_4.length ≤ c0_4) (hr0_10 : Kd.C k86 w A0_10 l0_10.length l0_10) (hc0_10 : l0_10.length ≤ c0_10) (h1 : Aside0 (impl_rowed.f k l0_0 a0_1 a0_2 = some true)) (h2 : Aside0 (impl_within.f a0_3 0 40 = some true)) (gm : decide ((l0_10.length : Int) > a0_3) = false) (gv : decide ((l0_4.length : Int) > a0_1) = false) (pv : Int) (h3 : Aside0 (impl_placeOfBits.f k l0_4 = some (pv, true))) (h4 : Aside0 (impl_within.f a0_5 (-1) 1 = some true)) (g6 : a0_6 = true) (g5 : decide (a0_5 < 0) = false) (gz : decide ((l0_4.length : Int) > 0) = true) :
  Calls Try.prog 32 #[.agg #[.slice A0_0 l0_0.length c0_0, .int .i64 a0_1, .string a0_2, .int .i64 a0_3, .slice A0_4 l0_4.length c0_4, .int .i64 a0_5, .bool a0_6, .int .i64 a0_7, .int .i64 a0_8, .int .i64 a0_9, .slice A0_10 l0_10.length c0_10]] w fun e w' => e = .returned (.bool false) ∧ Below w.heap.size w w' := by
   have gm1 : decide (a0_3 < (l0_10.length : Int)) = false := gm; have gv1 : decide (a0_1 < (l0_4.length : Int)) = false := gv; have gz1 : decide (0 < (l0_4.length : Int)) = true := gz
   have gz2 : decide (0 < l0_4.length) = true := by rw [← gz1]; exact decide_eq_decide.2 (by omega)
   subst g6
   go_enter Try.func32, Try.ntmps32
   go_wp2_with (first | ((with_reducible refine gate_dst (N := 1) rfl ?_); refine box_event ?hg (N := 1) ?hd (cs := #[.slice A0_0 l0_0.length c0_0, .int .i64 a0_1, .string a0_2, .int .i64 a0_3, .slice A0_4 l0_4.length c0_4, .int .i64 a0_5, .bool true, .int .i64 a0_7, .int .i64 a0_8, .int .i64 a0_9, .slice A0_10 l0_10.length c0_10]) (t := 36) ?hr ?_; (case hd => rfl); (case hg => rfl); (case hr => first | (go_simp; done) | (go_simp; rfl)); intro gb hg w3 hbox hb; have HB := Aside0.mk hb; have BK := Aside0.mk hbox; have GE := Aside0.mk (by rw [hg]; exact Nat.le_refl _ : w.heap.size ≤ gb); clear hb hbox hg; have hcz0 : w3.cell? ⟨gb, 0, none⟩ = some (.slice A0_0 l0_0.length c0_0) := (blk_cell BK.out 0).trans rfl; have hcz1 : w3.cell? ⟨gb, 1, none⟩ = some (.int .i64 a0_1) := (blk_cell BK.out 1).trans rfl; have hcz2 : w3.cell? ⟨gb, 2, none⟩ = some (.string a0_2) := (blk_cell BK.out 2).trans rfl; have hcz3 : w3.cell? ⟨gb, 3, none⟩ = some (.int .i64 a0_3) := (blk_cell BK.out 3).trans rfl; have hcz4 : w3.cell? ⟨gb, 4, none⟩ = some (.slice A0_4 l0_4.length c0_4) := (blk_cell BK.out 4).trans rfl; have hcz5 : w3.cell? ⟨gb, 5, none⟩ = some (.int .i64 a0_5) := (blk_cell BK.out 5).trans rfl; have hcz6 : w3.cell? ⟨gb, 6, none⟩ = some (.bool true) := (blk_cell BK.out 6).trans rfl; have hcz7 : w3.cell? ⟨gb, 7, none⟩ = some (.int .i64 a0_7) := (blk_cell BK.out 7).trans rfl; have hcz8 : w3.cell? ⟨gb, 8, none⟩ = some (.int .i64 a0_8) := (blk_cell BK.out 8).trans rfl; have hcz9 : w3.cell? ⟨gb, 9, none⟩ = some (.int .i64 a0_9) := (blk_cell BK.out 9).trans rfl; have hcz10 : w3.cell? ⟨gb, 10, none⟩ = some (.slice A0_10 l0_10.length c0_10) := (blk_cell BK.out 10).trans rfl) | ((with_reducible refine gate_callee (f := 59) rfl ?_); (try (refine gate_guard (by rfl) ?_; dsimp only)); refine goesL_ (some 12) rfl rfl Try.func59 (by kernel_rfl) rfl #[.slice A0_0 l0_0.length c0_0, .agg #[.int .i64 a0_1, .string a0_2]] rfl (by (try simp only [List.map_toArray, List.map_cons, List.map_nil]); first | done | rfl) ?_; (with_reducible refine (impl_rowed.calls k _ _ l0_0 a0_1 a0_2 true _ ?side1 hc0_0 h1.out).mono ?_); (case side1 => exact Kd.C_below hr0_0 HB.out); rintro e w4 ⟨rfl, hb⟩; refine ⟨_, rfl, ?_⟩; have HB4 := Aside0.mk (below_step HB.out hb); have BK4 := Aside0.mk (blk_below BK.out hb); clear hb HB BK; clear hcz0 hcz1 hcz2 hcz3 hcz4 hcz5 hcz6 hcz7 hcz8 hcz9 hcz10; have hcy0 : w4.cell? ⟨gb, 0, none⟩ = some (.slice A0_0 l0_0.length c0_0) := (blk_cell BK4.out 0).trans rfl; have hcy1 : w4.cell? ⟨gb, 1, none⟩ = some (.int .i64 a0_1) := (blk_cell BK4.out 1).trans rfl; have hcy2 : w4.cell? ⟨gb, 2, none⟩ = some (.string a0_2) := (blk_cell BK4.out 2).trans rfl; have hcy3 : w4.cell? ⟨gb, 3, none⟩ = some (.int .i64 a0_3) := (blk_cell BK4.out 3).trans rfl; have hcy4 : w4.cell? ⟨gb, 4, none⟩ = some (.slice A0_4 l0_4.length c0_4) := (blk_cell BK4.out 4).trans rfl; have hcy5 : w4.cell? ⟨gb, 5, none⟩ = some (.int .i64 a0_5) := (blk_cell BK4.out 5).trans rfl; have hcy6 : w4.cell? ⟨gb, 6, none⟩ = some (.bool true) := (blk_cell BK4.out 6).trans rfl; have hcy7 : w4.cell? ⟨gb, 7, none⟩ = some (.int .i64 a0_7) := (blk_cell BK4.out 7).trans rfl; have hcy8 : w4.cell? ⟨gb, 8, none⟩ = some (.int .i64 a0_8) := (blk_cell BK4.out 8).trans rfl; have hcy9 : w4.cell? ⟨gb, 9, none⟩ = some (.int .i64 a0_9) := (blk_cell BK4.out 9).trans rfl; have hcy10 : w4.cell? ⟨gb, 10, none⟩ = some (.slice A0_10 l0_10.length c0_10) := (blk_cell BK4.out 10).trans rfl) | (go_at_call 64; (try simp only [i64_w, i32_w]); (with_reducible refine (impl_within.calls a0_3 0 40 true _ h2.out).mono ?_); rintro e w' ⟨rfl, ⟨nd, rfl⟩⟩) | (go_at_call 77; (try simp only [i64_w, i32_w]); refine (impl_placeOfBits.calls k _ _ l0_4 pv true _ ?_ hc0_4 h3.out).mono ?_; exact Kd.C_below hr0_4 (pw_below_drewN HB4.out _); rintro e w' ⟨rfl, ⟨nd, rfl⟩⟩) | (go_at_call 64; (try simp only [i64_w, i32_w]); (with_reducible refine (impl_within.calls a0_5 (-1) 1 true _ h4.out).mono ?_); rintro e w' ⟨rfl, ⟨nd, rfl⟩⟩))
   go_ret
   exact ⟨rfl, by repeat (first | (with_reducible first | exact HB4.out | exact HB.out | apply below_alloc | apply pw_below_drewN | apply below_drew1) | exact HB4.out | exact HB.out)⟩

set_option maxHeartbeats 80000000 in
set_option maxRecDepth 100000 in
theorem mok_9 (k : Nat) (r : Bool) (A0_0 : Option Addr) (c0_0 : Nat) (l0_0 : List Bool) (a0_1 : Int) (a0_2 : ByteArray) (a0_3 : Int) (A0_4 : Option Addr) (c0_4 : Nat) (l0_4 : List Int) (a0_5 : Int) (a0_6 : Bool) (a0_7 : Int) (a0_8 : Int) (a0_9 : Int) (A0_10 : Option Addr) (c0_10 : Nat) (l0_10 : List (S86)) (w : World) (hr0_0 : Kd.C Kd.bool w A0_0 l0_0.length l0_0) (hc0_0 : l0_0.length ≤ c0_0) (hr0_4 : Kd.C (Kd.int .i64) w A0_4 l0_4.length l0_4) (hc0_4 : l0_4.length ≤ c0_4) (hr0_10 : Kd.C k86 w A0_10 l0_10.length l0_10) (hc0_10 : l0_10.length ≤ c0_10) (hz : ∀ s ∈ l0_10, s.f0.size ≤ maxLen) (hr : r = (decide (okMemo l0_10) && okCounts a0_7 a0_8 a0_9)) (h1 : Aside0 (impl_rowed.f k l0_0 a0_1 a0_2 = some true)) (h2 : Aside0 (impl_within.f a0_3 0 40 = some true)) (gm : decide ((l0_10.length : Int) > a0_3) = false) (gv : decide ((l0_4.length : Int) > a0_1) = false) (pv : Int) (h3 : Aside0 (impl_placeOfBits.f k l0_4 = some (pv, true))) (h4 : Aside0 (impl_within.f a0_5 (-1) 1 = some true)) (g6 : a0_6 = false) :
  Calls Try.prog 32 #[.agg #[.slice A0_0 l0_0.length c0_0, .int .i64 a0_1, .string a0_2, .int .i64 a0_3, .slice A0_4 l0_4.length c0_4, .int .i64 a0_5, .bool a0_6, .int .i64 a0_7, .int .i64 a0_8, .int .i64 a0_9, .slice A0_10 l0_10.length c0_10]] w fun e w' => e = .returned (.bool r) ∧ Below w.heap.size w w' := by
 have gm1 : decide (a0_3 < (l0_10.length : Int)) = false := gm; have gv1 : decide (a0_1 < (l0_4.length : Int)) = false := gv
 subst g6
 have HZ := Aside0.mk hz; have HR := Aside0.mk hr0_10
 replace hr := Aside0.mk hr
 clear hz hr0_10
 go_enter Try.func32, Try.ntmps32
 go_wp2_with (first | ((with_reducible refine gate_dst (N := 1) rfl ?_); refine box_event ?hg (N := 1) ?hd (cs := #[.slice A0_0 l0_0.length c0_0, .int .i64 a0_1, .string a0_2, .int .i64 a0_3, .slice A0_4 l0_4.length c0_4, .int .i64 a0_5, .bool false, .int .i64 a0_7, .int .i64 a0_8, .int .i64 a0_9, .slice A0_10 l0_10.length c0_10]) (t := 36) ?hr ?_; (case hd => rfl); (case hg => rfl); (case hr => first | (go_simp; done) | (go_simp; rfl)); intro gb hg w3 hbox hb; have HB := Aside0.mk hb; have BK := Aside0.mk hbox; have GE := Aside0.mk (by rw [hg]; exact Nat.le_refl _ : w.heap.size ≤ gb); clear hb hbox hg; have hcz0 : w3.cell? ⟨gb, 0, none⟩ = some (.slice A0_0 l0_0.length c0_0) := (blk_cell BK.out 0).trans rfl; have hcz1 : w3.cell? ⟨gb, 1, none⟩ = some (.int .i64 a0_1) := (blk_cell BK.out 1).trans rfl; have hcz2 : w3.cell? ⟨gb, 2, none⟩ = some (.string a0_2) := (blk_cell BK.out 2).trans rfl; have hcz3 : w3.cell? ⟨gb, 3, none⟩ = some (.int .i64 a0_3) := (blk_cell BK.out 3).trans rfl; have hcz4 : w3.cell? ⟨gb, 4, none⟩ = some (.slice A0_4 l0_4.length c0_4) := (blk_cell BK.out 4).trans rfl; have hcz5 : w3.cell? ⟨gb, 5, none⟩ = some (.int .i64 a0_5) := (blk_cell BK.out 5).trans rfl; have hcz6 : w3.cell? ⟨gb, 6, none⟩ = some (.bool false) := (blk_cell BK.out 6).trans rfl; have hcz7 : w3.cell? ⟨gb, 7, none⟩ = some (.int .i64 a0_7) := (blk_cell BK.out 7).trans rfl; have hcz8 : w3.cell? ⟨gb, 8, none⟩ = some (.int .i64 a0_8) := (blk_cell BK.out 8).trans rfl; have hcz9 : w3.cell? ⟨gb, 9, none⟩ = some (.int .i64 a0_9) := (blk_cell BK.out 9).trans rfl; have hcz10 : w3.cell? ⟨gb, 10, none⟩ = some (.slice A0_10 l0_10.length c0_10) := (blk_cell BK.out 10).trans rfl) | ((with_reducible refine gate_callee (f := 59) rfl ?_); (try (refine gate_guard (by rfl) ?_; dsimp only)); refine goesL_ (some 12) rfl rfl Try.func59 (by kernel_rfl) rfl #[.slice A0_0 l0_0.length c0_0, .agg #[.int .i64 a0_1, .string a0_2]] rfl (by (try simp only [List.map_toArray, List.map_cons, List.map_nil]); first | done | rfl) ?_; (with_reducible refine (impl_rowed.calls k _ _ l0_0 a0_1 a0_2 true _ ?side1 hc0_0 h1.out).mono ?_); (case side1 => exact Kd.C_below hr0_0 HB.out); rintro e w4 ⟨rfl, hb⟩; refine ⟨_, rfl, ?_⟩; have HB4 := Aside0.mk (below_step HB.out hb); have BK4 := Aside0.mk (blk_below BK.out hb); clear hb HB BK; clear hcz0 hcz1 hcz2 hcz3 hcz4 hcz5 hcz6 hcz7 hcz8 hcz9 hcz10; have hcy0 : w4.cell? ⟨gb, 0, none⟩ = some (.slice A0_0 l0_0.length c0_0) := (blk_cell BK4.out 0).trans rfl; have hcy1 : w4.cell? ⟨gb, 1, none⟩ = some (.int .i64 a0_1) := (blk_cell BK4.out 1).trans rfl; have hcy2 : w4.cell? ⟨gb, 2, none⟩ = some (.string a0_2) := (blk_cell BK4.out 2).trans rfl; have hcy3 : w4.cell? ⟨gb, 3, none⟩ = some (.int .i64 a0_3) := (blk_cell BK4.out 3).trans rfl; have hcy4 : w4.cell? ⟨gb, 4, none⟩ = some (.slice A0_4 l0_4.length c0_4) := (blk_cell BK4.out 4).trans rfl; have hcy5 : w4.cell? ⟨gb, 5, none⟩ = some (.int .i64 a0_5) := (blk_cell BK4.out 5).trans rfl; have hcy6 : w4.cell? ⟨gb, 6, none⟩ = some (.bool false) := (blk_cell BK4.out 6).trans rfl; have hcy7 : w4.cell? ⟨gb, 7, none⟩ = some (.int .i64 a0_7) := (blk_cell BK4.out 7).trans rfl; have hcy8 : w4.cell? ⟨gb, 8, none⟩ = some (.int .i64 a0_8) := (blk_cell BK4.out 8).trans rfl; have hcy9 : w4.cell? ⟨gb, 9, none⟩ = some (.int .i64 a0_9) := (blk_cell BK4.out 9).trans rfl; have hcy10 : w4.cell? ⟨gb, 10, none⟩ = some (.slice A0_10 l0_10.length c0_10) := (blk_cell BK4.out 10).trans rfl) | (go_at_call 64; (try simp only [i64_w, i32_w]); (with_reducible refine (impl_within.calls a0_3 0 40 true _ h2.out).mono ?_); rintro e w' ⟨rfl, ⟨nd, rfl⟩⟩) | (go_at_call 77; (try simp only [i64_w, i32_w]); refine (impl_placeOfBits.calls k _ _ l0_4 pv true _ ?_ hc0_4 h3.out).mono ?_; exact Kd.C_below hr0_4 (pw_below_drewN HB4.out _); rintro e w' ⟨rfl, ⟨nd, rfl⟩⟩) | (go_at_call 64; (try simp only [i64_w, i32_w]); (with_reducible refine (impl_within.calls a0_5 (-1) 1 true _ h4.out).mono ?_); rintro e w' ⟨rfl, ⟨nd, rfl⟩⟩) | ((with_reducible refine gate_dst (N := 66) rfl ?_); refine wpList_mkmap (κ := ByteArray) (P := Try.prog) (t := 90) ?_ ?_ 9 3 Value.string (fun s => s.size ≤ maxLen) ?_; rfl; rfl; intro mb w5 hmb HM0 hb5; have HM := Aside0.mk HM0; have HB5 := Aside0.mk (below_step (pw_below_drewN HB4.out _) hb5); have BK5 := Aside0.mk (blk_below (blk_drewN BK4.out _) hb5); have MG := Aside0.mk (by rw [hmb]; exact (pw_below_drewN HB4.out _).size : w.heap.size ≤ mb); clear HM0 hb5 hmb HB4 BK4; clear hcy0 hcy1 hcy2 hcy3 hcy4 hcy5 hcy6 hcy7 hcy8 hcy9 hcy10; have hcx0 : w5.cell? ⟨gb, 0, none⟩ = some (.slice A0_0 l0_0.length c0_0) := (blk_cell BK5.out 0).trans rfl; have hcx1 : w5.cell? ⟨gb, 1, none⟩ = some (.int .i64 a0_1) := (blk_cell BK5.out 1).trans rfl; have hcx2 : w5.cell? ⟨gb, 2, none⟩ = some (.string a0_2) := (blk_cell BK5.out 2).trans rfl; have hcx3 : w5.cell? ⟨gb, 3, none⟩ = some (.int .i64 a0_3) := (blk_cell BK5.out 3).trans rfl; have hcx4 : w5.cell? ⟨gb, 4, none⟩ = some (.slice A0_4 l0_4.length c0_4) := (blk_cell BK5.out 4).trans rfl; have hcx5 : w5.cell? ⟨gb, 5, none⟩ = some (.int .i64 a0_5) := (blk_cell BK5.out 5).trans rfl; have hcx6 : w5.cell? ⟨gb, 6, none⟩ = some (.bool false) := (blk_cell BK5.out 6).trans rfl; have hcx7 : w5.cell? ⟨gb, 7, none⟩ = some (.int .i64 a0_7) := (blk_cell BK5.out 7).trans rfl; have hcx8 : w5.cell? ⟨gb, 8, none⟩ = some (.int .i64 a0_8) := (blk_cell BK5.out 8).trans rfl; have hcx9 : w5.cell? ⟨gb, 9, none⟩ = some (.int .i64 a0_9) := (blk_cell BK5.out 9).trans rfl; have hcx10 : w5.cell? ⟨gb, 10, none⟩ = some (.slice A0_10 l0_10.length c0_10) := (blk_cell BK5.out 10).trans rfl))
 clear hcx0 hcx1 hcx2 hcx3 hcx4 hcx5 hcx6 hcx7 hcx8 hcx9 hcx10
 go_loopg [70] l0_10.length (fun kq v70 wr => ∃ i : Nat, v70 = .int .i64 i ∧ Aside0 (i ≤ l0_10.length ∧ kq = l0_10.length - i) ∧ Aside0 (∀ j, j < i → okSeen l0_10 j) ∧ Aside0 (IsMp Try.prog 9 3 Value.string (fun s => s.size ≤ maxLen) wr mb (seenMap l0_10 i)) ∧ Aside0 (wr.heap[gb]? = some (.cells #[.slice A0_0 l0_0.length c0_0, .int .i64 a0_1, .string a0_2, .int .i64 a0_3, .slice A0_4 l0_4.length c0_4, .int .i64 a0_5, .bool false, .int .i64 a0_7, .int .i64 a0_8, .int .i64 a0_9, .slice A0_10 l0_10.length c0_10] 36 (0, 0))) ∧ Aside0 (Below w.heap.size w wr))
 case atStart => exact ⟨0, rfl, ⟨by omega, by omega⟩, ⟨fun j hj => by omega⟩, HM, BK5, HB5⟩
 case round =>
  clear HM BK5 HB5
  obtain ⟨i, rfl, hi, hall, HM, BK, HB⟩ := hrel
  by_cases hlt : i < l0_10.length
  ·have hd0 : decide (i < l0_10.length) = true := decide_eq_true hlt
   have hd1 : decide ((i : Int) < (l0_10.length : Int)) = true := decide_eq_true (by omega)
   have hmx := (Kd.C_max HR.out)
   obtain ⟨ad, e_, hx0, hx1⟩ := at_T86 HR.out (i : Int) (by omega) (by omega)
   cases e_
   replace hx0 := (HB.out.cell (World.block_lt_of_cell? w _ hx0)).trans hx0
   replace hx1 := (HB.out.cell (World.block_lt_of_cell? w _ hx1)).trans hx1
   rw [Int.toNat_natCast] at hx0 hx1
   have hw4 : wrap64 ((i : Int) + 1) = (i : Int) + 1 := by have := hmx; unfold wrap64; omega
   have hwf : Aside0 ((rd_T86 l0_10 i).f0.size ≤ maxLen) := ⟨HZ.out _ (by rw [show rd_T86 l0_10 i = l0_10[i] from by simp [rd_T86, List.getD_eq_getElem?_getD, List.getElem?_eq_getElem hlt]]; exact List.getElem_mem hlt)⟩
   have hml : Aside0 ((seenMap l0_10 i).length < maxLen) := ⟨by have := hmx; simp [seenMap]; unfold maxLen; omega⟩
   clear hmx
   by_cases c0 : (rd_T86 l0_10 i).f1 = 0 ∨ (rd_T86 l0_10 i).f1 = 1
   ·by_cases c5 : (rd_T86 l0_10 i).f0 ∈ ((l0_10.take i).map (fun s => s.f0) : List ByteArray)
    ·have d5 : mget (seenMap l0_10 i) (rd_T86 l0_10 i).f0 = 1 := by rw [mget_seen, if_pos c5]
     have c5 := Aside0.mk c5
     rcases c0 with c0 | c0
     ·have d0 : ((rd_T86 l0_10 i).f1 != 0) = false := by rw [c0]; rfl
      clear c0
      go_wp2_with (first | (at_lookup; (try (refine gate_guard (by rfl) ?_; dsimp only)); refine wpList_mget (κ := ByteArray) (P := Try.prog) (t := 90) (k := 9) (e := 3) (m := seenMap l0_10 i) rfl _ _ rfl strCodec Try.underlying90 Try.underlying3 zeroInt (HM.out.alloc _) rfl (rd_T86 l0_10 i).f0 rfl hwf.out ?_))
      go_ret
      have hr0 : r = false := by rw [hr.out, decide_eq_false (fun h : okMemo l0_10 => (h i hlt).2 c5.out)]; rfl
      rw [hr0]
      exact ⟨rfl, below_alloc HB.out _⟩
     ·have d0 : ((rd_T86 l0_10 i).f1 != 0) = true := by rw [c0]; rfl
      have d1 : ((rd_T86 l0_10 i).f1 != 1) = false := by rw [c0]; rfl
      clear c0
      go_wp2_with (first | (at_lookup; (try (refine gate_guard (by rfl) ?_; dsimp only)); refine wpList_mget (κ := ByteArray) (P := Try.prog) (t := 90) (k := 9) (e := 3) (m := seenMap l0_10 i) rfl _ _ rfl strCodec Try.underlying90 Try.underlying3 zeroInt (HM.out.alloc _) rfl (rd_T86 l0_10 i).f0 rfl hwf.out ?_))
      go_ret
      have hr0 : r = false := by rw [hr.out, decide_eq_false (fun h : okMemo l0_10 => (h i hlt).2 c5.out)]; rfl
      rw [hr0]
      exact ⟨rfl, below_alloc HB.out _⟩
    ·have d5 : mget (seenMap l0_10 i) (rd_T86 l0_10 i).f0 = 0 := by rw [mget_seen, if_neg c5]
     have hok := Aside0.mk (⟨c0, c5⟩ : okSeen l0_10 i); clear c5
     rcases c0 with c0 | c0
     ·have d0 : ((rd_T86 l0_10 i).f1 != 0) = false := by rw [c0]; rfl
      clear c0
      go_wp2_with (first | (at_lookup; (try (refine gate_guard (by rfl) ?_; dsimp only)); refine wpList_mget (κ := ByteArray) (P := Try.prog) (t := 90) (k := 9) (e := 3) (m := seenMap l0_10 i) rfl _ _ rfl strCodec Try.underlying90 Try.underlying3 zeroInt (HM.out.alloc _) rfl (rd_T86 l0_10 i).f0 rfl hwf.out ?_) | (at_mapUpdate; refine wpList_mput (κ := ByteArray) (P := Try.prog) (t := 90) (k := 9) (e := 3) (m := seenMap l0_10 i) rfl _ _ _ rfl strCodec Try.underlying90 Try.underlying3 (HM.out.alloc _) rfl (rd_T86 l0_10 i).f0 rfl hwf.out 1 rfl (by decide) hml.out ?_; intro w1 hm1 hg1))
      go_roundg (l0_10.length - (i + 1))
      case measure => have := hi.out; omega
      case rel => exact ⟨i + 1, (by first | rfl | (rw [hw4]; rfl)), ⟨by have := hi.out; omega, rfl⟩, ⟨fun j hj => by rcases Nat.lt_succ_iff_lt_or_eq.1 hj with h | rfl; exact hall.out j h; exact hok.out⟩, ⟨by rw [seenMap_succ _ _ hlt]; exact hm1⟩, ⟨blk_grown (blk_alloc BK.out _) hg1 (by intro h_; injection h_ with h_; exact (HM.out.ne BK.out) h_.symm)⟩, ⟨pw_below_grown (below_alloc HB.out _) (some mb) (below_alloc HB.out _).size hg1 (fun k_ hk_ => by injection hk_ with hk_; subst hk_; exact MG.out)⟩⟩
     ·have d0 : ((rd_T86 l0_10 i).f1 != 0) = true := by rw [c0]; rfl
      have d1 : ((rd_T86 l0_10 i).f1 != 1) = false := by rw [c0]; rfl
      clear c0
      go_wp2_with (first | (at_lookup; (try (refine gate_guard (by rfl) ?_; dsimp only)); refine wpList_mget (κ := ByteArray) (P := Try.prog) (t := 90) (k := 9) (e := 3) (m := seenMap l0_10 i) rfl _ _ rfl strCodec Try.underlying90 Try.underlying3 zeroInt (HM.out.alloc _) rfl (rd_T86 l0_10 i).f0 rfl hwf.out ?_) | (at_mapUpdate; refine wpList_mput (κ := ByteArray) (P := Try.prog) (t := 90) (k := 9) (e := 3) (m := seenMap l0_10 i) rfl _ _ _ rfl strCodec Try.underlying90 Try.underlying3 (HM.out.alloc _) rfl (rd_T86 l0_10 i).f0 rfl hwf.out 1 rfl (by decide) hml.out ?_; intro w1 hm1 hg1))
      go_roundg (l0_10.length - (i + 1))
      case measure => have := hi.out; omega
      case rel => exact ⟨i + 1, (by first | rfl | (rw [hw4]; rfl)), ⟨by have := hi.out; omega, rfl⟩, ⟨fun j hj => by rcases Nat.lt_succ_iff_lt_or_eq.1 hj with h | rfl; exact hall.out j h; exact hok.out⟩, ⟨by rw [seenMap_succ _ _ hlt]; exact hm1⟩, ⟨blk_grown (blk_alloc BK.out _) hg1 (by intro h_; injection h_ with h_; exact (HM.out.ne BK.out) h_.symm)⟩, ⟨pw_below_grown (below_alloc HB.out _) (some mb) (below_alloc HB.out _).size hg1 (fun k_ hk_ => by injection hk_ with hk_; subst hk_; exact MG.out)⟩⟩
   ·have d0 : ((rd_T86 l0_10 i).f1 != 0) = true := bne_iff_ne.2 (fun h => c0 (.inl h))
    have d1 : ((rd_T86 l0_10 i).f1 != 1) = true := bne_iff_ne.2 (fun h => c0 (.inr h))
    have c0 := Aside0.mk c0
    go_wp2
    go_ret
    have hr0 : r = false := by rw [hr.out, decide_eq_false (fun h : okMemo l0_10 => c0.out (h i hlt).1)]; rfl
    rw [hr0]
    exact ⟨rfl, below_alloc HB.out _⟩
  ·have hd0 : decide (i < l0_10.length) = false := decide_eq_false hlt
   have hd1 : decide ((i : Int) < (l0_10.length : Int)) = false := decide_eq_false (by omega)
   have hM := Aside0.mk (fun j hj => hall.out j (by omega) : okMemo l0_10)
   have hcz6 : wr.cell? ⟨gb, 7, none⟩ = some (.int .i64 a0_7) := (blk_cell BK.out 7).trans rfl; have hcz7 : wr.cell? ⟨gb, 8, none⟩ = some (.int .i64 a0_8) := (blk_cell BK.out 8).trans rfl; have hcz8 : wr.cell? ⟨gb, 9, none⟩ = some (.int .i64 a0_9) := (blk_cell BK.out 9).trans rfl
   obtain ⟨b7, e7⟩ : ∃ b, b = decide (0 ≤ a0_7 ∧ a0_7 ≤ 1000000000) := ⟨_, rfl⟩
   have h7 := Aside0.mk ((isCount_eq a0_7).trans (by rw [← e7]) : impl_isCount.f a0_7 = some b7)
   cases b7 with
      | false =>
    replace e7 := Aside0.mk e7
    go_wp2_with (first | (go_at_call 78; (try simp only [i64_w, i32_w]); (with_reducible refine (impl_isCount.calls a0_7 false _ h7.out).mono ?_); rintro e w' ⟨rfl, ⟨nd, rfl⟩⟩))
    go_ret
    have hr0 : r = false := by rw [hr.out, (decide_eq_true hM.out : decide (okMemo l0_10) = true)]; simp [okCounts, ← e7.out]
    rw [hr0]
    exact ⟨rfl, by repeat (first | (with_reducible first | exact HB.out | apply pw_below_drewN) | exact HB.out)⟩
      | true =>
    replace e7 := Aside0.mk e7
    obtain ⟨b8, e8⟩ : ∃ b, b = decide (0 ≤ a0_8 ∧ a0_8 ≤ 1000000000) := ⟨_, rfl⟩
    have h8 := Aside0.mk ((isCount_eq a0_8).trans (by rw [← e8]) : impl_isCount.f a0_8 = some b8)
    cases b8 with
        | false =>
     replace e8 := Aside0.mk e8
     go_wp2_with (first | (go_at_call 78; (try simp only [i64_w, i32_w]); (with_reducible refine (impl_isCount.calls a0_7 true _ h7.out).mono ?_); rintro e w' ⟨rfl, ⟨nd, rfl⟩⟩) | (go_at_call 78; (try simp only [i64_w, i32_w]); (with_reducible refine (impl_isCount.calls a0_8 false _ h8.out).mono ?_); rintro e w' ⟨rfl, ⟨nd, rfl⟩⟩))
     go_ret
     have hr0 : r = false := by rw [hr.out, (decide_eq_true hM.out : decide (okMemo l0_10) = true)]; simp [okCounts, ← e7.out, ← e8.out]
     rw [hr0]
     exact ⟨rfl, by repeat (first | (with_reducible first | exact HB.out | apply pw_below_drewN) | exact HB.out)⟩
        | true =>
     replace e8 := Aside0.mk e8
     obtain ⟨b9, e9⟩ : ∃ b, b = decide (0 ≤ a0_9 ∧ a0_9 ≤ 1000000000) := ⟨_, rfl⟩
     have h9 := Aside0.mk ((isCount_eq a0_9).trans (by rw [← e9]) : impl_isCount.f a0_9 = some b9)
     cases b9 with
          | false =>
      replace e9 := Aside0.mk e9
      go_wp2_with (first | (go_at_call 78; (try simp only [i64_w, i32_w]); (with_reducible refine (impl_isCount.calls a0_7 true _ h7.out).mono ?_); rintro e w' ⟨rfl, ⟨nd, rfl⟩⟩) | (go_at_call 78; (try simp only [i64_w, i32_w]); (with_reducible refine (impl_isCount.calls a0_8 true _ h8.out).mono ?_); rintro e w' ⟨rfl, ⟨nd, rfl⟩⟩) | (go_at_call 78; (try simp only [i64_w, i32_w]); (with_reducible refine (impl_isCount.calls a0_9 false _ h9.out).mono ?_); rintro e w' ⟨rfl, ⟨nd, rfl⟩⟩))
      go_ret
      have hr0 : r = false := by rw [hr.out, (decide_eq_true hM.out : decide (okMemo l0_10) = true)]; simp [okCounts, ← e7.out, ← e8.out, ← e9.out]
      rw [hr0]
      exact ⟨rfl, by repeat (first | (with_reducible first | exact HB.out | apply pw_below_drewN) | exact HB.out)⟩
          | true =>
      replace e9 := Aside0.mk e9
      go_wp2_with (first | (go_at_call 78; (try simp only [i64_w, i32_w]); (with_reducible refine (impl_isCount.calls a0_7 true _ h7.out).mono ?_); rintro e w' ⟨rfl, ⟨nd, rfl⟩⟩) | (go_at_call 78; (try simp only [i64_w, i32_w]); (with_reducible refine (impl_isCount.calls a0_8 true _ h8.out).mono ?_); rintro e w' ⟨rfl, ⟨nd, rfl⟩⟩) | (go_at_call 78; (try simp only [i64_w, i32_w]); (with_reducible refine (impl_isCount.calls a0_9 true _ h9.out).mono ?_); rintro e w' ⟨rfl, ⟨nd, rfl⟩⟩))
      go_ret
      have hr0 : r = true := by rw [hr.out, (decide_eq_true hM.out : decide (okMemo l0_10) = true)]; simp [okCounts, ← e7.out, ← e8.out, ← e9.out]
      rw [hr0]
      exact ⟨rfl, by repeat (first | (with_reducible first | exact HB.out | apply pw_below_drewN) | exact HB.out)⟩

set_option maxHeartbeats 80000000 in
set_option maxRecDepth 100000 in
theorem mok_10 (k : Nat) (r : Bool) (A0_0 : Option Addr) (c0_0 : Nat) (l0_0 : List Bool) (a0_1 : Int) (a0_2 : ByteArray) (a0_3 : Int) (A0_4 : Option Addr) (c0_4 : Nat) (l0_4 : List Int) (a0_5 : Int) (a0_6 : Bool) (a0_7 : Int) (a0_8 : Int) (a0_9 : Int) (A0_10 : Option Addr) (c0_10 : Nat) (l0_10 : List (S86)) (w : World) (hr0_0 : Kd.C Kd.bool w A0_0 l0_0.length l0_0) (hc0_0 : l0_0.length ≤ c0_0) (hr0_4 : Kd.C (Kd.int .i64) w A0_4 l0_4.length l0_4) (hc0_4 : l0_4.length ≤ c0_4) (hr0_10 : Kd.C k86 w A0_10 l0_10.length l0_10) (hc0_10 : l0_10.length ≤ c0_10) (hz : ∀ s ∈ l0_10, s.f0.size ≤ maxLen) (hr : r = (decide (okMemo l0_10) && okCounts a0_7 a0_8 a0_9)) (h1 : Aside0 (impl_rowed.f k l0_0 a0_1 a0_2 = some true)) (h2 : Aside0 (impl_within.f a0_3 0 40 = some true)) (gm : decide ((l0_10.length : Int) > a0_3) = false) (gv : decide ((l0_4.length : Int) > a0_1) = false) (pv : Int) (h3 : Aside0 (impl_placeOfBits.f k l0_4 = some (pv, true))) (h4 : Aside0 (impl_within.f a0_5 (-1) 1 = some true)) (g6 : a0_6 = true) (g5 : decide (a0_5 < 0) = false) (gz : decide ((l0_4.length : Int) > 0) = false) :
  Calls Try.prog 32 #[.agg #[.slice A0_0 l0_0.length c0_0, .int .i64 a0_1, .string a0_2, .int .i64 a0_3, .slice A0_4 l0_4.length c0_4, .int .i64 a0_5, .bool a0_6, .int .i64 a0_7, .int .i64 a0_8, .int .i64 a0_9, .slice A0_10 l0_10.length c0_10]] w fun e w' => e = .returned (.bool r) ∧ Below w.heap.size w w' := by
 have gm1 : decide (a0_3 < (l0_10.length : Int)) = false := gm; have gv1 : decide (a0_1 < (l0_4.length : Int)) = false := gv; have gz1 : decide (0 < (l0_4.length : Int)) = false := gz
 have gz2 : decide (0 < l0_4.length) = false := by rw [← gz1]; exact decide_eq_decide.2 (by omega)
 subst g6
 have HZ := Aside0.mk hz; have HR := Aside0.mk hr0_10
 replace hr := Aside0.mk hr
 clear hz hr0_10
 go_enter Try.func32, Try.ntmps32
 go_wp2_with (first | ((with_reducible refine gate_dst (N := 1) rfl ?_); refine box_event ?hg (N := 1) ?hd (cs := #[.slice A0_0 l0_0.length c0_0, .int .i64 a0_1, .string a0_2, .int .i64 a0_3, .slice A0_4 l0_4.length c0_4, .int .i64 a0_5, .bool true, .int .i64 a0_7, .int .i64 a0_8, .int .i64 a0_9, .slice A0_10 l0_10.length c0_10]) (t := 36) ?hr ?_; (case hd => rfl); (case hg => rfl); (case hr => first | (go_simp; done) | (go_simp; rfl)); intro gb hg w3 hbox hb; have HB := Aside0.mk hb; have BK := Aside0.mk hbox; have GE := Aside0.mk (by rw [hg]; exact Nat.le_refl _ : w.heap.size ≤ gb); clear hb hbox hg; have hcz0 : w3.cell? ⟨gb, 0, none⟩ = some (.slice A0_0 l0_0.length c0_0) := (blk_cell BK.out 0).trans rfl; have hcz1 : w3.cell? ⟨gb, 1, none⟩ = some (.int .i64 a0_1) := (blk_cell BK.out 1).trans rfl; have hcz2 : w3.cell? ⟨gb, 2, none⟩ = some (.string a0_2) := (blk_cell BK.out 2).trans rfl; have hcz3 : w3.cell? ⟨gb, 3, none⟩ = some (.int .i64 a0_3) := (blk_cell BK.out 3).trans rfl; have hcz4 : w3.cell? ⟨gb, 4, none⟩ = some (.slice A0_4 l0_4.length c0_4) := (blk_cell BK.out 4).trans rfl; have hcz5 : w3.cell? ⟨gb, 5, none⟩ = some (.int .i64 a0_5) := (blk_cell BK.out 5).trans rfl; have hcz6 : w3.cell? ⟨gb, 6, none⟩ = some (.bool true) := (blk_cell BK.out 6).trans rfl; have hcz7 : w3.cell? ⟨gb, 7, none⟩ = some (.int .i64 a0_7) := (blk_cell BK.out 7).trans rfl; have hcz8 : w3.cell? ⟨gb, 8, none⟩ = some (.int .i64 a0_8) := (blk_cell BK.out 8).trans rfl; have hcz9 : w3.cell? ⟨gb, 9, none⟩ = some (.int .i64 a0_9) := (blk_cell BK.out 9).trans rfl; have hcz10 : w3.cell? ⟨gb, 10, none⟩ = some (.slice A0_10 l0_10.length c0_10) := (blk_cell BK.out 10).trans rfl) | ((with_reducible refine gate_callee (f := 59) rfl ?_); (try (refine gate_guard (by rfl) ?_; dsimp only)); refine goesL_ (some 12) rfl rfl Try.func59 (by kernel_rfl) rfl #[.slice A0_0 l0_0.length c0_0, .agg #[.int .i64 a0_1, .string a0_2]] rfl (by (try simp only [List.map_toArray, List.map_cons, List.map_nil]); first | done | rfl) ?_; (with_reducible refine (impl_rowed.calls k _ _ l0_0 a0_1 a0_2 true _ ?side1 hc0_0 h1.out).mono ?_); (case side1 => exact Kd.C_below hr0_0 HB.out); rintro e w4 ⟨rfl, hb⟩; refine ⟨_, rfl, ?_⟩; have HB4 := Aside0.mk (below_step HB.out hb); have BK4 := Aside0.mk (blk_below BK.out hb); clear hb HB BK; clear hcz0 hcz1 hcz2 hcz3 hcz4 hcz5 hcz6 hcz7 hcz8 hcz9 hcz10; have hcy0 : w4.cell? ⟨gb, 0, none⟩ = some (.slice A0_0 l0_0.length c0_0) := (blk_cell BK4.out 0).trans rfl; have hcy1 : w4.cell? ⟨gb, 1, none⟩ = some (.int .i64 a0_1) := (blk_cell BK4.out 1).trans rfl; have hcy2 : w4.cell? ⟨gb, 2, none⟩ = some (.string a0_2) := (blk_cell BK4.out 2).trans rfl; have hcy3 : w4.cell? ⟨gb, 3, none⟩ = some (.int .i64 a0_3) := (blk_cell BK4.out 3).trans rfl; have hcy4 : w4.cell? ⟨gb, 4, none⟩ = some (.slice A0_4 l0_4.length c0_4) := (blk_cell BK4.out 4).trans rfl; have hcy5 : w4.cell? ⟨gb, 5, none⟩ = some (.int .i64 a0_5) := (blk_cell BK4.out 5).trans rfl; have hcy6 : w4.cell? ⟨gb, 6, none⟩ = some (.bool true) := (blk_cell BK4.out 6).trans rfl; have hcy7 : w4.cell? ⟨gb, 7, none⟩ = some (.int .i64 a0_7) := (blk_cell BK4.out 7).trans rfl; have hcy8 : w4.cell? ⟨gb, 8, none⟩ = some (.int .i64 a0_8) := (blk_cell BK4.out 8).trans rfl; have hcy9 : w4.cell? ⟨gb, 9, none⟩ = some (.int .i64 a0_9) := (blk_cell BK4.out 9).trans rfl; have hcy10 : w4.cell? ⟨gb, 10, none⟩ = some (.slice A0_10 l0_10.length c0_10) := (blk_cell BK4.out 10).trans rfl) | (go_at_call 64; (try simp only [i64_w, i32_w]); (with_reducible refine (impl_within.calls a0_3 0 40 true _ h2.out).mono ?_); rintro e w' ⟨rfl, ⟨nd, rfl⟩⟩) | (go_at_call 77; (try simp only [i64_w, i32_w]); refine (impl_placeOfBits.calls k _ _ l0_4 pv true _ ?_ hc0_4 h3.out).mono ?_; exact Kd.C_below hr0_4 (pw_below_drewN HB4.out _); rintro e w' ⟨rfl, ⟨nd, rfl⟩⟩) | (go_at_call 64; (try simp only [i64_w, i32_w]); (with_reducible refine (impl_within.calls a0_5 (-1) 1 true _ h4.out).mono ?_); rintro e w' ⟨rfl, ⟨nd, rfl⟩⟩) | ((with_reducible refine gate_dst (N := 66) rfl ?_); refine wpList_mkmap (κ := ByteArray) (P := Try.prog) (t := 90) ?_ ?_ 9 3 Value.string (fun s => s.size ≤ maxLen) ?_; rfl; rfl; intro mb w5 hmb HM0 hb5; have HM := Aside0.mk HM0; have HB5 := Aside0.mk (below_step (pw_below_drewN HB4.out _) hb5); have BK5 := Aside0.mk (blk_below (blk_drewN BK4.out _) hb5); have MG := Aside0.mk (by rw [hmb]; exact (pw_below_drewN HB4.out _).size : w.heap.size ≤ mb); clear HM0 hb5 hmb HB4 BK4; clear hcy0 hcy1 hcy2 hcy3 hcy4 hcy5 hcy6 hcy7 hcy8 hcy9 hcy10; have hcx0 : w5.cell? ⟨gb, 0, none⟩ = some (.slice A0_0 l0_0.length c0_0) := (blk_cell BK5.out 0).trans rfl; have hcx1 : w5.cell? ⟨gb, 1, none⟩ = some (.int .i64 a0_1) := (blk_cell BK5.out 1).trans rfl; have hcx2 : w5.cell? ⟨gb, 2, none⟩ = some (.string a0_2) := (blk_cell BK5.out 2).trans rfl; have hcx3 : w5.cell? ⟨gb, 3, none⟩ = some (.int .i64 a0_3) := (blk_cell BK5.out 3).trans rfl; have hcx4 : w5.cell? ⟨gb, 4, none⟩ = some (.slice A0_4 l0_4.length c0_4) := (blk_cell BK5.out 4).trans rfl; have hcx5 : w5.cell? ⟨gb, 5, none⟩ = some (.int .i64 a0_5) := (blk_cell BK5.out 5).trans rfl; have hcx6 : w5.cell? ⟨gb, 6, none⟩ = some (.bool true) := (blk_cell BK5.out 6).trans rfl; have hcx7 : w5.cell? ⟨gb, 7, none⟩ = some (.int .i64 a0_7) := (blk_cell BK5.out 7).trans rfl; have hcx8 : w5.cell? ⟨gb, 8, none⟩ = some (.int .i64 a0_8) := (blk_cell BK5.out 8).trans rfl; have hcx9 : w5.cell? ⟨gb, 9, none⟩ = some (.int .i64 a0_9) := (blk_cell BK5.out 9).trans rfl; have hcx10 : w5.cell? ⟨gb, 10, none⟩ = some (.slice A0_10 l0_10.length c0_10) := (blk_cell BK5.out 10).trans rfl))
 clear hcx0 hcx1 hcx2 hcx3 hcx4 hcx5 hcx6 hcx7 hcx8 hcx9 hcx10
 go_loopg [70] l0_10.length (fun kq v70 wr => ∃ i : Nat, v70 = .int .i64 i ∧ Aside0 (i ≤ l0_10.length ∧ kq = l0_10.length - i) ∧ Aside0 (∀ j, j < i → okSeen l0_10 j) ∧ Aside0 (IsMp Try.prog 9 3 Value.string (fun s => s.size ≤ maxLen) wr mb (seenMap l0_10 i)) ∧ Aside0 (wr.heap[gb]? = some (.cells #[.slice A0_0 l0_0.length c0_0, .int .i64 a0_1, .string a0_2, .int .i64 a0_3, .slice A0_4 l0_4.length c0_4, .int .i64 a0_5, .bool true, .int .i64 a0_7, .int .i64 a0_8, .int .i64 a0_9, .slice A0_10 l0_10.length c0_10] 36 (0, 0))) ∧ Aside0 (Below w.heap.size w wr))
 case atStart => exact ⟨0, rfl, ⟨by omega, by omega⟩, ⟨fun j hj => by omega⟩, HM, BK5, HB5⟩
 case round =>
  clear HM BK5 HB5
  obtain ⟨i, rfl, hi, hall, HM, BK, HB⟩ := hrel
  by_cases hlt : i < l0_10.length
  ·have hd0 : decide (i < l0_10.length) = true := decide_eq_true hlt
   have hd1 : decide ((i : Int) < (l0_10.length : Int)) = true := decide_eq_true (by omega)
   have hmx := (Kd.C_max HR.out)
   obtain ⟨ad, e_, hx0, hx1⟩ := at_T86 HR.out (i : Int) (by omega) (by omega)
   cases e_
   replace hx0 := (HB.out.cell (World.block_lt_of_cell? w _ hx0)).trans hx0
   replace hx1 := (HB.out.cell (World.block_lt_of_cell? w _ hx1)).trans hx1
   rw [Int.toNat_natCast] at hx0 hx1
   have hw4 : wrap64 ((i : Int) + 1) = (i : Int) + 1 := by have := hmx; unfold wrap64; omega
   have hwf : Aside0 ((rd_T86 l0_10 i).f0.size ≤ maxLen) := ⟨HZ.out _ (by rw [show rd_T86 l0_10 i = l0_10[i] from by simp [rd_T86, List.getD_eq_getElem?_getD, List.getElem?_eq_getElem hlt]]; exact List.getElem_mem hlt)⟩
   have hml : Aside0 ((seenMap l0_10 i).length < maxLen) := ⟨by have := hmx; simp [seenMap]; unfold maxLen; omega⟩
   clear hmx
   by_cases c0 : (rd_T86 l0_10 i).f1 = 0 ∨ (rd_T86 l0_10 i).f1 = 1
   ·by_cases c5 : (rd_T86 l0_10 i).f0 ∈ ((l0_10.take i).map (fun s => s.f0) : List ByteArray)
    ·have d5 : mget (seenMap l0_10 i) (rd_T86 l0_10 i).f0 = 1 := by rw [mget_seen, if_pos c5]
     have c5 := Aside0.mk c5
     rcases c0 with c0 | c0
     ·have d0 : ((rd_T86 l0_10 i).f1 != 0) = false := by rw [c0]; rfl
      clear c0
      go_wp2_with (first | (at_lookup; (try (refine gate_guard (by rfl) ?_; dsimp only)); refine wpList_mget (κ := ByteArray) (P := Try.prog) (t := 90) (k := 9) (e := 3) (m := seenMap l0_10 i) rfl _ _ rfl strCodec Try.underlying90 Try.underlying3 zeroInt (HM.out.alloc _) rfl (rd_T86 l0_10 i).f0 rfl hwf.out ?_))
      go_ret
      have hr0 : r = false := by rw [hr.out, decide_eq_false (fun h : okMemo l0_10 => (h i hlt).2 c5.out)]; rfl
      rw [hr0]
      exact ⟨rfl, below_alloc HB.out _⟩
     ·have d0 : ((rd_T86 l0_10 i).f1 != 0) = true := by rw [c0]; rfl
      have d1 : ((rd_T86 l0_10 i).f1 != 1) = false := by rw [c0]; rfl
      clear c0
      go_wp2_with (first | (at_lookup; (try (refine gate_guard (by rfl) ?_; dsimp only)); refine wpList_mget (κ := ByteArray) (P := Try.prog) (t := 90) (k := 9) (e := 3) (m := seenMap l0_10 i) rfl _ _ rfl strCodec Try.underlying90 Try.underlying3 zeroInt (HM.out.alloc _) rfl (rd_T86 l0_10 i).f0 rfl hwf.out ?_))
      go_ret
      have hr0 : r = false := by rw [hr.out, decide_eq_false (fun h : okMemo l0_10 => (h i hlt).2 c5.out)]; rfl
      rw [hr0]
      exact ⟨rfl, below_alloc HB.out _⟩
    ·have d5 : mget (seenMap l0_10 i) (rd_T86 l0_10 i).f0 = 0 := by rw [mget_seen, if_neg c5]
     have hok := Aside0.mk (⟨c0, c5⟩ : okSeen l0_10 i); clear c5
     rcases c0 with c0 | c0
     ·have d0 : ((rd_T86 l0_10 i).f1 != 0) = false := by rw [c0]; rfl
      clear c0
      go_wp2_with (first | (at_lookup; (try (refine gate_guard (by rfl) ?_; dsimp only)); refine wpList_mget (κ := ByteArray) (P := Try.prog) (t := 90) (k := 9) (e := 3) (m := seenMap l0_10 i) rfl _ _ rfl strCodec Try.underlying90 Try.underlying3 zeroInt (HM.out.alloc _) rfl (rd_T86 l0_10 i).f0 rfl hwf.out ?_) | (at_mapUpdate; refine wpList_mput (κ := ByteArray) (P := Try.prog) (t := 90) (k := 9) (e := 3) (m := seenMap l0_10 i) rfl _ _ _ rfl strCodec Try.underlying90 Try.underlying3 (HM.out.alloc _) rfl (rd_T86 l0_10 i).f0 rfl hwf.out 1 rfl (by decide) hml.out ?_; intro w1 hm1 hg1))
      go_roundg (l0_10.length - (i + 1))
      case measure => have := hi.out; omega
      case rel => exact ⟨i + 1, (by first | rfl | (rw [hw4]; rfl)), ⟨by have := hi.out; omega, rfl⟩, ⟨fun j hj => by rcases Nat.lt_succ_iff_lt_or_eq.1 hj with h | rfl; exact hall.out j h; exact hok.out⟩, ⟨by rw [seenMap_succ _ _ hlt]; exact hm1⟩, ⟨blk_grown (blk_alloc BK.out _) hg1 (by intro h_; injection h_ with h_; exact (HM.out.ne BK.out) h_.symm)⟩, ⟨pw_below_grown (below_alloc HB.out _) (some mb) (below_alloc HB.out _).size hg1 (fun k_ hk_ => by injection hk_ with hk_; subst hk_; exact MG.out)⟩⟩
     ·have d0 : ((rd_T86 l0_10 i).f1 != 0) = true := by rw [c0]; rfl
      have d1 : ((rd_T86 l0_10 i).f1 != 1) = false := by rw [c0]; rfl
      clear c0
      go_wp2_with (first | (at_lookup; (try (refine gate_guard (by rfl) ?_; dsimp only)); refine wpList_mget (κ := ByteArray) (P := Try.prog) (t := 90) (k := 9) (e := 3) (m := seenMap l0_10 i) rfl _ _ rfl strCodec Try.underlying90 Try.underlying3 zeroInt (HM.out.alloc _) rfl (rd_T86 l0_10 i).f0 rfl hwf.out ?_) | (at_mapUpdate; refine wpList_mput (κ := ByteArray) (P := Try.prog) (t := 90) (k := 9) (e := 3) (m := seenMap l0_10 i) rfl _ _ _ rfl strCodec Try.underlying90 Try.underlying3 (HM.out.alloc _) rfl (rd_T86 l0_10 i).f0 rfl hwf.out 1 rfl (by decide) hml.out ?_; intro w1 hm1 hg1))
      go_roundg (l0_10.length - (i + 1))
      case measure => have := hi.out; omega
      case rel => exact ⟨i + 1, (by first | rfl | (rw [hw4]; rfl)), ⟨by have := hi.out; omega, rfl⟩, ⟨fun j hj => by rcases Nat.lt_succ_iff_lt_or_eq.1 hj with h | rfl; exact hall.out j h; exact hok.out⟩, ⟨by rw [seenMap_succ _ _ hlt]; exact hm1⟩, ⟨blk_grown (blk_alloc BK.out _) hg1 (by intro h_; injection h_ with h_; exact (HM.out.ne BK.out) h_.symm)⟩, ⟨pw_below_grown (below_alloc HB.out _) (some mb) (below_alloc HB.out _).size hg1 (fun k_ hk_ => by injection hk_ with hk_; subst hk_; exact MG.out)⟩⟩
   ·have d0 : ((rd_T86 l0_10 i).f1 != 0) = true := bne_iff_ne.2 (fun h => c0 (.inl h))
    have d1 : ((rd_T86 l0_10 i).f1 != 1) = true := bne_iff_ne.2 (fun h => c0 (.inr h))
    have c0 := Aside0.mk c0
    go_wp2
    go_ret
    have hr0 : r = false := by rw [hr.out, decide_eq_false (fun h : okMemo l0_10 => c0.out (h i hlt).1)]; rfl
    rw [hr0]
    exact ⟨rfl, below_alloc HB.out _⟩
  ·have hd0 : decide (i < l0_10.length) = false := decide_eq_false hlt
   have hd1 : decide ((i : Int) < (l0_10.length : Int)) = false := decide_eq_false (by omega)
   have hM := Aside0.mk (fun j hj => hall.out j (by omega) : okMemo l0_10)
   have hcz6 : wr.cell? ⟨gb, 7, none⟩ = some (.int .i64 a0_7) := (blk_cell BK.out 7).trans rfl; have hcz7 : wr.cell? ⟨gb, 8, none⟩ = some (.int .i64 a0_8) := (blk_cell BK.out 8).trans rfl; have hcz8 : wr.cell? ⟨gb, 9, none⟩ = some (.int .i64 a0_9) := (blk_cell BK.out 9).trans rfl
   obtain ⟨b7, e7⟩ : ∃ b, b = decide (0 ≤ a0_7 ∧ a0_7 ≤ 1000000000) := ⟨_, rfl⟩
   have h7 := Aside0.mk ((isCount_eq a0_7).trans (by rw [← e7]) : impl_isCount.f a0_7 = some b7)
   cases b7 with
      | false =>
    replace e7 := Aside0.mk e7
    go_wp2_with (first | (go_at_call 78; (try simp only [i64_w, i32_w]); (with_reducible refine (impl_isCount.calls a0_7 false _ h7.out).mono ?_); rintro e w' ⟨rfl, ⟨nd, rfl⟩⟩))
    go_ret
    have hr0 : r = false := by rw [hr.out, (decide_eq_true hM.out : decide (okMemo l0_10) = true)]; simp [okCounts, ← e7.out]
    rw [hr0]
    exact ⟨rfl, by repeat (first | (with_reducible first | exact HB.out | apply pw_below_drewN) | exact HB.out)⟩
      | true =>
    replace e7 := Aside0.mk e7
    obtain ⟨b8, e8⟩ : ∃ b, b = decide (0 ≤ a0_8 ∧ a0_8 ≤ 1000000000) := ⟨_, rfl⟩
    have h8 := Aside0.mk ((isCount_eq a0_8).trans (by rw [← e8]) : impl_isCount.f a0_8 = some b8)
    cases b8 with
        | false =>
     replace e8 := Aside0.mk e8
     go_wp2_with (first | (go_at_call 78; (try simp only [i64_w, i32_w]); (with_reducible refine (impl_isCount.calls a0_7 true _ h7.out).mono ?_); rintro e w' ⟨rfl, ⟨nd, rfl⟩⟩) | (go_at_call 78; (try simp only [i64_w, i32_w]); (with_reducible refine (impl_isCount.calls a0_8 false _ h8.out).mono ?_); rintro e w' ⟨rfl, ⟨nd, rfl⟩⟩))
     go_ret
     have hr0 : r = false := by rw [hr.out, (decide_eq_true hM.out : decide (okMemo l0_10) = true)]; simp [okCounts, ← e7.out, ← e8.out]
     rw [hr0]
     exact ⟨rfl, by repeat (first | (with_reducible first | exact HB.out | apply pw_below_drewN) | exact HB.out)⟩
        | true =>
     replace e8 := Aside0.mk e8
     obtain ⟨b9, e9⟩ : ∃ b, b = decide (0 ≤ a0_9 ∧ a0_9 ≤ 1000000000) := ⟨_, rfl⟩
     have h9 := Aside0.mk ((isCount_eq a0_9).trans (by rw [← e9]) : impl_isCount.f a0_9 = some b9)
     cases b9 with
          | false =>
      replace e9 := Aside0.mk e9
      go_wp2_with (first | (go_at_call 78; (try simp only [i64_w, i32_w]); (with_reducible refine (impl_isCount.calls a0_7 true _ h7.out).mono ?_); rintro e w' ⟨rfl, ⟨nd, rfl⟩⟩) | (go_at_call 78; (try simp only [i64_w, i32_w]); (with_reducible refine (impl_isCount.calls a0_8 true _ h8.out).mono ?_); rintro e w' ⟨rfl, ⟨nd, rfl⟩⟩) | (go_at_call 78; (try simp only [i64_w, i32_w]); (with_reducible refine (impl_isCount.calls a0_9 false _ h9.out).mono ?_); rintro e w' ⟨rfl, ⟨nd, rfl⟩⟩))
      go_ret
      have hr0 : r = false := by rw [hr.out, (decide_eq_true hM.out : decide (okMemo l0_10) = true)]; simp [okCounts, ← e7.out, ← e8.out, ← e9.out]
      rw [hr0]
      exact ⟨rfl, by repeat (first | (with_reducible first | exact HB.out | apply pw_below_drewN) | exact HB.out)⟩
          | true =>
      replace e9 := Aside0.mk e9
      go_wp2_with (first | (go_at_call 78; (try simp only [i64_w, i32_w]); (with_reducible refine (impl_isCount.calls a0_7 true _ h7.out).mono ?_); rintro e w' ⟨rfl, ⟨nd, rfl⟩⟩) | (go_at_call 78; (try simp only [i64_w, i32_w]); (with_reducible refine (impl_isCount.calls a0_8 true _ h8.out).mono ?_); rintro e w' ⟨rfl, ⟨nd, rfl⟩⟩) | (go_at_call 78; (try simp only [i64_w, i32_w]); (with_reducible refine (impl_isCount.calls a0_9 true _ h9.out).mono ?_); rintro e w' ⟨rfl, ⟨nd, rfl⟩⟩))
      go_ret
      have hr0 : r = true := by rw [hr.out, (decide_eq_true hM.out : decide (okMemo l0_10) = true)]; simp [okCounts, ← e7.out, ← e8.out, ← e9.out]
      rw [hr0]
      exact ⟨rfl, by repeat (first | (with_reducible first | exact HB.out | apply pw_below_drewN) | exact HB.out)⟩

theorem impl_MachineOk.calls (k : Nat) (A0_0 : Option Addr) (c0_0 : Nat) (l0_0 : List Bool) (a0_1 : Int) (a0_2 : ByteArray) (a0_3 : Int) (A0_4 : Option Addr) (c0_4 : Nat) (l0_4 : List Int) (a0_5 : Int) (a0_6 : Bool) (a0_7 : Int) (a0_8 : Int) (a0_9 : Int) (A0_10 : Option Addr) (c0_10 : Nat) (l0_10 : List (S86)) (r : Bool) (w : World) (hr0_0 : Kd.C Kd.bool w A0_0 l0_0.length l0_0) (hc0_0 : l0_0.length ≤ c0_0) (hr0_4 : Kd.C (Kd.int .i64) w A0_4 l0_4.length l0_4) (hc0_4 : l0_4.length ≤ c0_4) (hr0_10 : Kd.C k86 w A0_10 l0_10.length l0_10) (hc0_10 : l0_10.length ≤ c0_10) (h : impl_MachineOk.f k l0_0 a0_1 a0_2 a0_3 l0_4 a0_5 a0_6 a0_7 a0_8 a0_9 l0_10 = some r) :
  Calls Try.prog 32 #[.agg #[.slice A0_0 l0_0.length c0_0, .int .i64 a0_1, .string a0_2, .int .i64 a0_3, .slice A0_4 l0_4.length c0_4, .int .i64 a0_5, .bool a0_6, .int .i64 a0_7, .int .i64 a0_8, .int .i64 a0_9, .slice A0_10 l0_10.length c0_10]] w fun e w' => e = .returned (.bool r) ∧ Below w.heap.size w w' := by
 unfold impl_MachineOk.f at h
 split at h
 ·rename_i hz
  obtain ⟨b1, h1, h⟩ := Option.bind_eq_some_iff.1 h
  obtain ⟨⟨pv, b3⟩, h3, h⟩ := Option.bind_eq_some_iff.1 h
  have h := (Option.some.inj h).symm; have e2 := within_eq a0_3 0 40; have e4 := within_eq a0_5 (-1) 1
  have no : r = false → Calls Try.prog 32 #[.agg #[.slice A0_0 l0_0.length c0_0, .int .i64 a0_1, .string a0_2, .int .i64 a0_3, .slice A0_4 l0_4.length c0_4, .int .i64 a0_5, .bool a0_6, .int .i64 a0_7, .int .i64 a0_8, .int .i64 a0_9, .slice A0_10 l0_10.length c0_10]] w (fun e w' => e = .returned (.bool false) ∧ Below w.heap.size w w') → Calls Try.prog 32 #[.agg #[.slice A0_0 l0_0.length c0_0, .int .i64 a0_1, .string a0_2, .int .i64 a0_3, .slice A0_4 l0_4.length c0_4, .int .i64 a0_5, .bool a0_6, .int .i64 a0_7, .int .i64 a0_8, .int .i64 a0_9, .slice A0_10 l0_10.length c0_10]] w fun e w' => e = .returned (.bool r) ∧ Below w.heap.size w w' := fun hr hc => by rw [hr]; exact hc
  cases b1 with
    | false => exact no (by rw [h]; rfl) (mok_1 k A0_0 c0_0 l0_0 a0_1 a0_2 a0_3 A0_4 c0_4 l0_4 a0_5 a0_6 a0_7 a0_8 a0_9 A0_10 c0_10 l0_10 w hr0_0 hc0_0 hr0_4 hc0_4 hr0_10 hc0_10 ⟨h1⟩)
    | true =>
   simp only [Bool.true_and] at h
   unfold okFront at h
   cases c2 : decide (0 ≤ a0_3 ∧ a0_3 ≤ 40) with
      | false => exact no (by rw [h, c2]; rfl) (mok_2 k A0_0 c0_0 l0_0 a0_1 a0_2 a0_3 A0_4 c0_4 l0_4 a0_5 a0_6 a0_7 a0_8 a0_9 A0_10 c0_10 l0_10 w hr0_0 hc0_0 hr0_4 hc0_4 hr0_10 hc0_10 ⟨h1⟩ ⟨e2.trans (by rw [c2])⟩)
      | true =>
    rw [c2] at e2
    cases c3 : decide ((l0_10.length : Int) > a0_3) with
        | true => exact no (by rw [h, c2, c3]; rfl) (mok_3 k A0_0 c0_0 l0_0 a0_1 a0_2 a0_3 A0_4 c0_4 l0_4 a0_5 a0_6 a0_7 a0_8 a0_9 A0_10 c0_10 l0_10 w hr0_0 hc0_0 hr0_4 hc0_4 hr0_10 hc0_10 ⟨h1⟩ ⟨e2⟩ c3)
        | false =>
     cases c4 : decide ((l0_4.length : Int) > a0_1) with
          | true => exact no (by rw [h, c2, c3, c4]; rfl) (mok_4 k A0_0 c0_0 l0_0 a0_1 a0_2 a0_3 A0_4 c0_4 l0_4 a0_5 a0_6 a0_7 a0_8 a0_9 A0_10 c0_10 l0_10 w hr0_0 hc0_0 hr0_4 hc0_4 hr0_10 hc0_10 ⟨h1⟩ ⟨e2⟩ c3 c4)
          | false =>
      rw [c2, c3, c4] at h
      simp only [Bool.not_false, Bool.true_and] at h
      cases b3 with
            | false => exact no (by rw [h]; rfl) (mok_5 k A0_0 c0_0 l0_0 a0_1 a0_2 a0_3 A0_4 c0_4 l0_4 a0_5 a0_6 a0_7 a0_8 a0_9 A0_10 c0_10 l0_10 w hr0_0 hc0_0 hr0_4 hc0_4 hr0_10 hc0_10 ⟨h1⟩ ⟨e2⟩ c3 c4 pv ⟨h3⟩)
            | true =>
       simp only [Bool.true_and] at h
       unfold okRet at h
       cases c5 : decide (-1 ≤ a0_5 ∧ a0_5 ≤ 1) with
              | false => exact no (by rw [h, c5]; rfl) (mok_6 k A0_0 c0_0 l0_0 a0_1 a0_2 a0_3 A0_4 c0_4 l0_4 a0_5 a0_6 a0_7 a0_8 a0_9 A0_10 c0_10 l0_10 w hr0_0 hc0_0 hr0_4 hc0_4 hr0_10 hc0_10 ⟨h1⟩ ⟨e2⟩ c3 c4 pv ⟨h3⟩ ⟨e4.trans (by rw [c5])⟩)
              | true =>
        rw [c5] at e4 h
        simp only [Bool.true_and] at h
        cases c6 : a0_6 with
                | false =>
         rw [c6] at h
         simp only [Bool.false_and, Bool.not_false, Bool.true_and] at h
         rw [← c6]
         exact mok_9 k r A0_0 c0_0 l0_0 a0_1 a0_2 a0_3 A0_4 c0_4 l0_4 a0_5 a0_6 a0_7 a0_8 a0_9 A0_10 c0_10 l0_10 w hr0_0 hc0_0 hr0_4 hc0_4 hr0_10 hc0_10 hz h ⟨h1⟩ ⟨e2⟩ c3 c4 pv ⟨h3⟩ ⟨e4⟩ c6
                | true =>
         rw [c6] at h
         simp only [Bool.true_and] at h
         rw [← c6]
         cases c7 : decide (a0_5 < 0) with
                  | true => exact no (by rw [h, c7]; rfl) (mok_7 k A0_0 c0_0 l0_0 a0_1 a0_2 a0_3 A0_4 c0_4 l0_4 a0_5 a0_6 a0_7 a0_8 a0_9 A0_10 c0_10 l0_10 w hr0_0 hc0_0 hr0_4 hc0_4 hr0_10 hc0_10 ⟨h1⟩ ⟨e2⟩ c3 c4 pv ⟨h3⟩ ⟨e4⟩ c6 c7)
                  | false =>
          cases c8 : decide ((l0_4.length : Int) > 0) with
                    | true => exact no (by rw [h, c7, c8]; rfl) (mok_8 k A0_0 c0_0 l0_0 a0_1 a0_2 a0_3 A0_4 c0_4 l0_4 a0_5 a0_6 a0_7 a0_8 a0_9 A0_10 c0_10 l0_10 w hr0_0 hc0_0 hr0_4 hc0_4 hr0_10 hc0_10 ⟨h1⟩ ⟨e2⟩ c3 c4 pv ⟨h3⟩ ⟨e4⟩ c6 c7 c8)
                    | false =>
           rw [c7, c8] at h
           exact mok_10 k r A0_0 c0_0 l0_0 a0_1 a0_2 a0_3 A0_4 c0_4 l0_4 a0_5 a0_6 a0_7 a0_8 a0_9 A0_10 c0_10 l0_10 w hr0_0 hc0_0 hr0_4 hc0_4 hr0_10 hc0_10 hz h ⟨h1⟩ ⟨e2⟩ c3 c4 pv ⟨h3⟩ ⟨e4⟩ c6 c7 c8
 ·cases h

end Go.Proofs.Ytlpfmhikahlcoaa.G
-- written by a program of this session (wip/gen/gen.py); Lean checks it
namespace Go.Proofs.Ytlpfmhikahlcoaa.G
open Go.RowKit Go.Proofs.YtlpfmhikahlcoaaW.PrintWords Go.Proofs.YtlpfmhikahlcoaaW.PrintLast Go.Proofs.YtlpfmhikahlcoaaW.PrintMore
attribute [local go_sem] max2_int min2_int max_two min_two max_three min_three max_four min_four   -- for this text's walks alone
set_option linter.unusedVariables false
set_option linter.unusedSimpArgs false

/-! ### impl_leftOf: function 80 -/
def impl_leftOf.f (k : Nat) (a0_0 : Int) (a0_1 : ByteArray) (l1 : List Int) : Option (Int × ByteArray) := (impl_placeOfBits.f k l1).bind fun bt103 => (if 0 ≤ (IntKind.u64.wrap (wrap64 (a0_0 - (l1.length : Int)))) then (if 0 ≤ (wrap64 (bt103.1 * (shl .i64 1 (IntKind.u64.wrap (wrap64 (a0_0 - (l1.length : Int))))))) then (if (wrap64 (bt103.1 * (shl .i64 1 (IntKind.u64.wrap (wrap64 (a0_0 - (l1.length : Int))))))) ≤ (wrap64 ((wrap64 (bt103.1 + 1)) * (shl .i64 1 (IntKind.u64.wrap (wrap64 (a0_0 - (l1.length : Int))))))) then (if (wrap64 ((wrap64 (bt103.1 + 1)) * (shl .i64 1 (IntKind.u64.wrap (wrap64 (a0_0 - (l1.length : Int))))))) ≤ (a0_1.size : Int) then (some (wrap64 (a0_0 - (l1.length : Int)), a0_1.extract ((wrap64 (bt103.1 * (shl .i64 1 (IntKind.u64.wrap (wrap64 (a0_0 - (l1.length : Int))))))) : Int).toNat ((wrap64 ((wrap64 (bt103.1 + 1)) * (shl .i64 1 (IntKind.u64.wrap (wrap64 (a0_0 - (l1.length : Int))))))) : Int).toNat)) else (none)) else (none)) else (none)) else (none))
set_option maxHeartbeats 8000000 in
set_option maxRecDepth 100000 in
theorem impl_leftOf.calls (k : Nat) (a0_0 : Int) (a0_1 : ByteArray) (A1 : Option Addr) (c1 : Nat) (l1 : List Int) (r1 : Int) (r2 : ByteArray) (w : World) (hr1 : Kd.C (Kd.int .i64) w A1 l1.length l1) (hc1 : l1.length ≤ c1) (h : impl_leftOf.f k a0_0 a0_1 l1 = some (r1, r2)) :
    Calls Try.prog 80 #[.agg #[.int .i64 a0_0, .string a0_1], .slice A1 l1.length c1] w fun e w' => e = .returned (.agg #[.int .i64 r1, .string r2]) ∧ Below w.heap.size w w' := by
  have hu29 := Try.underlying29
  have HR1 := Aside0.mk hr1
  have HC1 := Aside0.mk hc1
  clear hr1 hc1
  have HB := Aside0.mk (Below.refl w.heap.size w)
  have H : ((impl_placeOfBits.f k l1).bind fun bt103 => (if 0 ≤ (IntKind.u64.wrap (wrap64 (a0_0 - (l1.length : Int)))) then (if 0 ≤ (wrap64 (bt103.1 * (shl .i64 1 (IntKind.u64.wrap (wrap64 (a0_0 - (l1.length : Int))))))) then (if (wrap64 (bt103.1 * (shl .i64 1 (IntKind.u64.wrap (wrap64 (a0_0 - (l1.length : Int))))))) ≤ (wrap64 ((wrap64 (bt103.1 + 1)) * (shl .i64 1 (IntKind.u64.wrap (wrap64 (a0_0 - (l1.length : Int))))))) then (if (wrap64 ((wrap64 (bt103.1 + 1)) * (shl .i64 1 (IntKind.u64.wrap (wrap64 (a0_0 - (l1.length : Int))))))) ≤ (a0_1.size : Int) then (some (wrap64 (a0_0 - (l1.length : Int)), a0_1.extract ((wrap64 (bt103.1 * (shl .i64 1 (IntKind.u64.wrap (wrap64 (a0_0 - (l1.length : Int))))))) : Int).toNat ((wrap64 ((wrap64 (bt103.1 + 1)) * (shl .i64 1 (IntKind.u64.wrap (wrap64 (a0_0 - (l1.length : Int))))))) : Int).toNat)) else (none)) else (none)) else (none)) else (none))) = some (r1, r2) := h
  clear h
  replace H := Option.bind_eq_some_iff.mp H
  obtain ⟨⟨t103, t104⟩, A30, H⟩ := H
  replace H : (if 0 ≤ (IntKind.u64.wrap (wrap64 (a0_0 - (l1.length : Int)))) then (if 0 ≤ (wrap64 (t103 * (shl .i64 1 (IntKind.u64.wrap (wrap64 (a0_0 - (l1.length : Int))))))) then (if (wrap64 (t103 * (shl .i64 1 (IntKind.u64.wrap (wrap64 (a0_0 - (l1.length : Int))))))) ≤ (wrap64 ((wrap64 (t103 + 1)) * (shl .i64 1 (IntKind.u64.wrap (wrap64 (a0_0 - (l1.length : Int))))))) then (if (wrap64 ((wrap64 (t103 + 1)) * (shl .i64 1 (IntKind.u64.wrap (wrap64 (a0_0 - (l1.length : Int))))))) ≤ (a0_1.size : Int) then (some (wrap64 (a0_0 - (l1.length : Int)), a0_1.extract ((wrap64 (t103 * (shl .i64 1 (IntKind.u64.wrap (wrap64 (a0_0 - (l1.length : Int))))))) : Int).toNat ((wrap64 ((wrap64 (t103 + 1)) * (shl .i64 1 (IntKind.u64.wrap (wrap64 (a0_0 - (l1.length : Int))))))) : Int).toNat)) else (none)) else (none)) else (none)) else (none)) = some (r1, r2) := H
  have A3 := Aside0.mk A30
  clear A30
  obtain ⟨ji4, hji4⟩ : ∃ j_ : Int, (IntKind.u64.wrap (wrap64 (a0_0 - (l1.length : Int)))) = j_ := ⟨_, rfl⟩
  replace H : (if 0 ≤ (ji4) then (if 0 ≤ (wrap64 (t103 * (shl .i64 1 (ji4)))) then (if (wrap64 (t103 * (shl .i64 1 (ji4)))) ≤ (wrap64 ((wrap64 (t103 + 1)) * (shl .i64 1 (ji4)))) then (if (wrap64 ((wrap64 (t103 + 1)) * (shl .i64 1 (ji4)))) ≤ (a0_1.size : Int) then (some (wrap64 (a0_0 - (l1.length : Int)), a0_1.extract ((wrap64 (t103 * (shl .i64 1 (ji4)))) : Int).toNat ((wrap64 ((wrap64 (t103 + 1)) * (shl .i64 1 (ji4)))) : Int).toNat)) else (none)) else (none)) else (none)) else (none)) = some (r1, r2) := by first | (rw [hji4] at H; exact H) | (simp only [hji4] at H ⊢; exact H)
  (try rw [hji4] at A3)
  by_cases c5 : 0 ≤ (ji4)
  · rw [if_pos c5] at H
    have c5b0 := eq_true c5
    have c5b1 : decide (0 ≤ (ji4)) = true := decide_eq_true c5
    clear c5
    obtain ⟨ji6, hji6⟩ : ∃ j_ : Int, (shl .i64 1 (ji4)) = j_ := ⟨_, rfl⟩
    replace H : (if 0 ≤ (wrap64 (t103 * (ji6))) then (if (wrap64 (t103 * (ji6))) ≤ (wrap64 ((wrap64 (t103 + 1)) * (ji6))) then (if (wrap64 ((wrap64 (t103 + 1)) * (ji6))) ≤ (a0_1.size : Int) then (some (wrap64 (a0_0 - (l1.length : Int)), a0_1.extract ((wrap64 (t103 * (ji6))) : Int).toNat ((wrap64 ((wrap64 (t103 + 1)) * (ji6))) : Int).toNat)) else (none)) else (none)) else (none)) = some (r1, r2) := by first | (rw [hji6] at H; exact H) | (simp only [hji6] at H ⊢; exact H)
    (try rw [hji6] at A3)
    have hji6_ : (IntKind.i64.wrap (1 * 2 ^ min (ji4).toNat 64)) = ji6 := hji6
    have hji6z : (ji4) ≤ 64 → (IntKind.i64.wrap (1 * 2 ^ (ji4).toNat)) = ji6 := shl_small hji6
    have hji6u : (IntKind.i64.wrap (2 ^ min (ji4).toNat 64)) = ji6 := by have h_ := hji6_; rw [Int.one_mul] at h_; exact h_
    have hji6v : (ji4) ≤ 64 → (IntKind.i64.wrap (2 ^ (ji4).toNat)) = ji6 := fun hle_ => by have h_ := hji6z hle_; rw [Int.one_mul] at h_; exact h_
    have hji6y : (wrap64 (1 * 2 ^ min (ji4).toNat 64)) = ji6 := (i64_w _).symm.trans hji6_
    have hji6x : (ji4) ≤ 64 → (wrap64 (1 * 2 ^ (ji4).toNat)) = ji6 := fun h_ => (i64_w _).symm.trans (hji6z h_)
    obtain ⟨ji7, hji7⟩ : ∃ j_ : Int, (wrap64 (t103 * (ji6))) = j_ := ⟨_, rfl⟩
    replace H : (if 0 ≤ (ji7) then (if (ji7) ≤ (wrap64 ((wrap64 (t103 + 1)) * (ji6))) then (if (wrap64 ((wrap64 (t103 + 1)) * (ji6))) ≤ (a0_1.size : Int) then (some (wrap64 (a0_0 - (l1.length : Int)), a0_1.extract ((ji7) : Int).toNat ((wrap64 ((wrap64 (t103 + 1)) * (ji6))) : Int).toNat)) else (none)) else (none)) else (none)) = some (r1, r2) := by first | (rw [hji7] at H; exact H) | (simp only [hji7] at H ⊢; exact H)
    (try rw [hji7] at A3)
    have hji7w : (IntKind.i64.wrap (t103 * (ji6))) = ji7 := (i64_w _).trans hji7
    by_cases c8 : 0 ≤ (ji7)
    · rw [if_pos c8] at H
      have c8b0 := eq_true c8
      have c8b1 : decide (0 ≤ (ji7)) = true := decide_eq_true c8
      clear c8
      by_cases c9 : (ji7) ≤ (wrap64 ((wrap64 (t103 + 1)) * (ji6)))
      · rw [if_pos c9] at H
        have c9b0 := eq_true c9
        have c9b1 : decide ((ji7) ≤ (wrap64 ((wrap64 (t103 + 1)) * (ji6)))) = true := decide_eq_true c9
        by_cases c10 : (wrap64 ((wrap64 (t103 + 1)) * (ji6))) ≤ (a0_1.size : Int)
        · rw [if_pos c10] at H
          have c10b0 := eq_true c10
          have c10b1 : decide ((wrap64 ((wrap64 (t103 + 1)) * (ji6))) ≤ (a0_1.size : Int)) = true := decide_eq_true c10
          simp only [Option.some.injEq, Prod.mk.injEq] at H
          obtain ⟨rfl, rfl⟩ := H
          go_enter Try.func80, Try.ntmps80
          go_wp2_with (first | ((with_reducible refine gate_dst (N := 2) rfl ?_); refine box_event ?hg (N := 2) ?hd (cs := #[.int .i64 a0_0, .string a0_1]) (t := 29) ?hr ?_; (case hd => rfl); (case hg => rfl); (case hr => first | (go_simp; done) | (go_simp; rfl)); intro gb101 hg w11 hbox hb; have n0_ := Aside0.mk (below_step (by repeat (first | (with_reducible first | exact HB.out | apply below_alloc | apply pw_below_drewN | apply below_drew1) | exact HB.out)) hb); have n1_ := Aside0.mk (hbox); have n2_ := Aside0.mk ((by rw [hg]; exact (below_size (by repeat (first | (with_reducible first | exact HB.out | apply below_alloc | apply pw_below_drewN | apply below_drew1) | exact HB.out))) : w.heap.size ≤ gb101)); have n3_ := Aside0.mk ((by rw [hg]; exact (below_size (by repeat (first | (with_reducible first | exact HB.out | apply below_alloc | apply pw_below_drewN | apply below_drew1) | exact HB.out))) : w.heap.size ≤ gb101)); clear HB; have HB := n0_; have BK101 := n1_; have GW101 := n2_; have GE101 := n3_; clear n0_ n1_ n2_ n3_; clear hb hbox hg) | ((with_reducible refine gate_dst (N := 4) rfl ?_); refine box_event ?hg (N := 4) ?hd (cs := #[.int .i64 0, .string (⟨#[]⟩ : ByteArray)]) (t := 29) ?hr ?_; (case hd => rfl); (case hg => rfl); (case hr => first | (go_simp; done) | (go_simp; rfl)); intro gb102 hg w12 hbox hb; have n0_ := Aside0.mk (blk_below (g := gb101) (o := .cells #[.int .i64 a0_0, .string a0_1] 29 (0, 0)) (by (with_reducible repeat (first | refine blk_drewN ?_ _ | refine blk_drew ?_ | refine blk_alloc ?_ _)); exact BK101.out) hb); have n1_ := Aside0.mk (below_step (by repeat (first | (with_reducible first | exact HB.out | apply below_alloc | apply pw_below_drewN | apply below_drew1 | refine below_set ?_ GE101.out) | exact HB.out)) hb); have n2_ := Aside0.mk (hbox); have n3_ := Aside0.mk ((by rw [hg]; exact (below_size (by repeat (first | (with_reducible first | exact HB.out | apply below_alloc | apply pw_below_drewN | apply below_drew1 | refine below_set ?_ GE101.out) | exact HB.out))) : w.heap.size ≤ gb102)); have n4_ := Aside0.mk ((by rw [hg]; exact (below_size (by repeat (first | (with_reducible first | exact HB.out | apply below_alloc | apply pw_below_drewN | apply below_drew1 | refine below_set ?_ GE101.out) | exact HB.out))) : w.heap.size ≤ gb102)); have n5_ := Aside0.mk ((by rw [hg]; exact Nat.ne_of_lt (blk_lt (g := gb101) (o := .cells #[.int .i64 a0_0, .string a0_1] 29 (0, 0)) (by (with_reducible repeat (first | refine blk_drewN ?_ _ | refine blk_drew ?_ | refine blk_alloc ?_ _)); exact BK101.out)) : gb101 ≠ gb102)); have n6_ := Aside0.mk ((by rw [hg]; exact Nat.ne_of_gt (blk_lt (g := gb101) (o := .cells #[.int .i64 a0_0, .string a0_1] 29 (0, 0)) (by (with_reducible repeat (first | refine blk_drewN ?_ _ | refine blk_drew ?_ | refine blk_alloc ?_ _)); exact BK101.out)) : gb102 ≠ gb101)); clear BK101; clear HB; have BK101 := n0_; have HB := n1_; have BK102 := n2_; have GW102 := n3_; have GE102 := n4_; have NB101_102 := n5_; have NB102_101 := n6_; clear n0_ n1_ n2_ n3_ n4_ n5_ n6_; clear hb hbox hg) | ((with_reducible refine gate_callee (f := 77) rfl ?_); refine goesL_ (some 11) rfl rfl Try.func77 (by kernel_rfl) rfl #[.slice A1 l1.length c1] rfl (by (try simp only [List.map_toArray, List.map_cons, List.map_nil]); first | done | rfl | (simp only [List.length_drop, List.length_take]; rfl)) ?_; (with_reducible refine (impl_placeOfBits.calls k _ _ l1 t103 t104 _ ?side1 ?side2 A3.out).mono ?_); (case side1 => repeat (first | exact (Kd.C_below HR1.out HB.out) | (with_reducible refine Kd.C_alloc ?_ _) | (with_reducible refine Kd.C_drewN ?_ _) | (with_reducible refine Kd.C_drew ?_))); (case side2 => exact HC1.out); rintro e w' ⟨rfl, ⟨nd, rfl⟩⟩; refine ⟨_, rfl, ?_⟩; (try (rw [drewN_self w12]; generalize hq_ : World.drewN w12 _ = w12; have n0_ : Aside0 (w12.heap[gb101]? = some (.cells #[.int .i64 a0_0, .string a0_1] 29 (0, 0))) := ⟨by rw [← hq_]; exact (by (with_reducible repeat (first | refine blk_drewN ?_ _ | refine blk_drew ?_ | refine blk_alloc ?_ _)); exact BK101.out)⟩; have n1_ : Aside0 (w12.heap[gb102]? = some (.cells #[.int .i64 0, .string (⟨#[]⟩ : ByteArray)] 29 (0, 0))) := ⟨by rw [← hq_]; exact (by (with_reducible repeat (first | refine blk_drewN ?_ _ | refine blk_drew ?_ | refine blk_alloc ?_ _)); exact BK102.out)⟩; have n2_ : Aside0 (Below w.heap.size w w12) := ⟨by rw [← hq_]; exact (by repeat (first | (with_reducible first | exact HB.out | apply below_alloc | apply pw_below_drewN | apply below_drew1 | refine below_set ?_ GE101.out | refine below_set ?_ GE102.out) | exact HB.out))⟩; clear BK101 BK102 HB hq_; have BK101 := n0_; have BK102 := n1_; have HB := n2_; clear n0_ n1_ n2_)); have hnb13 := NB101_102.out; have hnc13 := NB102_101.out; have hcz14_0 : w12.cell? ⟨gb101, 0, none⟩ = some (.int .i64 a0_0) := (blk_cell BK101.out 0).trans rfl; have hcz14_1 : w12.cell? ⟨gb101, 1, none⟩ = some (.string a0_1) := (blk_cell BK101.out 1).trans rfl; have hfz14_0 := blk_frozen BK101.out 0; have hfz14_1 := blk_frozen BK101.out 1; have hcz15_0 : w12.cell? ⟨gb102, 0, none⟩ = some (.int .i64 0) := (blk_cell BK102.out 0).trans rfl; have hcz15_1 : w12.cell? ⟨gb102, 1, none⟩ = some (.string (⟨#[]⟩ : ByteArray)) := (blk_cell BK102.out 1).trans rfl; have hfz15_0 := blk_frozen BK102.out 0; have hfz15_1 := blk_frozen BK102.out 1))
          refine bodyPost_ret (results_cell_row rfl _ _ gb102 29 #[.int .i64 (wrap64 (a0_0 - (l1.length : Int))), .string (a0_1.extract ((ji7) : Int).toNat ((wrap64 ((wrap64 (t103 + 1)) * (ji6))) : Int).toNat)] (0, 0) _ rfl (by (with_reducible repeat (first | refine blk_drewN ?_ _ | refine blk_drew ?_ | refine blk_alloc ?_ _)); refine blk_put (cs := #[.int .i64 (wrap64 (a0_0 - (l1.length : Int))), .string (⟨#[]⟩ : ByteArray)]) ?_ 1 _ rfl; (with_reducible repeat (first | refine blk_drewN ?_ _ | refine blk_drew ?_ | refine blk_alloc ?_ _)); refine blk_put (cs := #[.int .i64 0, .string (⟨#[]⟩ : ByteArray)]) ?_ 0 _ rfl; (with_reducible repeat (first | refine blk_drewN ?_ _ | refine blk_drew ?_ | refine blk_alloc ?_ _)); exact BK102.out) Try.underlying29 rfl (by kernel_rfl)) rfl ?_
          exact ⟨by first | rfl | (simp [errW_none, errW_some] <;> rfl) | (simp only [← hji4, ← hji6, ← hji7]; first | rfl | (simp [errW_none, errW_some] <;> rfl)) | (simp [*, errW_none, errW_some] <;> rfl), by repeat (first | (with_reducible first | exact HB.out | apply below_alloc | apply pw_below_drewN | apply below_drew1 | refine below_set ?_ GE101.out | refine below_set ?_ GE102.out) | exact HB.out)⟩
        · rw [if_neg c10] at H
          exact absurd H (by simp)
      · rw [if_neg c9] at H
        exact absurd H (by simp)
    · rw [if_neg c8] at H
      exact absurd H (by simp)
  · rw [if_neg c5] at H
    exact absurd H (by simp)

end Go.Proofs.Ytlpfmhikahlcoaa.G
-- written by a program of this session (wip/gen/gen.py); Lean checks it
namespace Go.Proofs.Ytlpfmhikahlcoaa.G
open Go.Proofs.Ytlpfmhikahlcoaa.Sh Go.RowKit Go.Proofs.YtlpfmhikahlcoaaW.PrintWords Go.Proofs.YtlpfmhikahlcoaaW.PrintLast Go.Proofs.YtlpfmhikahlcoaaW.PrintMore
attribute [local go_sem] max2_int min2_int max_two min_two max_three min_three max_four min_four   -- for this text's walks alone
set_option linter.unusedVariables false
set_option linter.unusedSimpArgs false

/-! ### impl_MachineLeft: function 36 -/
def impl_MachineLeft.f (k : Nat) (l0_0 : List Bool) (a0_1 : Int) (a0_2 : ByteArray) (a0_3 : Int) (l0_4 : List Int) (a0_5 : Int) (a0_6 : Bool) (a0_7 : Int) (a0_8 : Int) (a0_9 : Int) (l0_10 : List (S86)) : Option (Int × ByteArray × Bool) := (impl_MachineOk.f k l0_0 a0_1 a0_2 a0_3 l0_4 a0_5 a0_6 a0_7 a0_8 a0_9 l0_10).bind fun t103 => (if t103 = true then ((impl_leftOf.f k a0_1 a0_2 l0_4).bind fun bt104 => (some (bt104.1, bt104.2, true))) else (some (0, (⟨#[]⟩ : ByteArray), false)))
set_option maxHeartbeats 80000000 in
set_option maxRecDepth 100000 in
theorem impl_MachineLeft.calls (k : Nat) (A0_0 : Option Addr) (c0_0 : Nat) (l0_0 : List Bool) (a0_1 : Int) (a0_2 : ByteArray) (a0_3 : Int) (A0_4 : Option Addr) (c0_4 : Nat) (l0_4 : List Int) (a0_5 : Int) (a0_6 : Bool) (a0_7 : Int) (a0_8 : Int) (a0_9 : Int) (A0_10 : Option Addr) (c0_10 : Nat) (l0_10 : List (S86)) (r1 : Int) (r2 : ByteArray) (r3 : Bool) (w : World) (hr0_0 : Kd.C Kd.bool w A0_0 l0_0.length l0_0) (hc0_0 : l0_0.length ≤ c0_0) (hr0_4 : Kd.C (Kd.int .i64) w A0_4 l0_4.length l0_4) (hc0_4 : l0_4.length ≤ c0_4) (hr0_10 : Kd.C k86 w A0_10 l0_10.length l0_10) (hc0_10 : l0_10.length ≤ c0_10) (h : impl_MachineLeft.f k l0_0 a0_1 a0_2 a0_3 l0_4 a0_5 a0_6 a0_7 a0_8 a0_9 l0_10 = some (r1, r2, r3)) :
  Calls Try.prog 36 #[.agg #[.slice A0_0 l0_0.length c0_0, .int .i64 a0_1, .string a0_2, .int .i64 a0_3, .slice A0_4 l0_4.length c0_4, .int .i64 a0_5, .bool a0_6, .int .i64 a0_7, .int .i64 a0_8, .int .i64 a0_9, .slice A0_10 l0_10.length c0_10]] w fun e w' => e = .returned (.tuple #[.agg #[.int .i64 r1, .string r2], .bool r3]) ∧ Below w.heap.size w w' := by
 have hu36 := Try.underlying36; have hu29 := Try.underlying29; have HR0_0 := Aside0.mk hr0_0; have HC0_0 := Aside0.mk hc0_0; clear hr0_0 hc0_0; have HR0_4 := Aside0.mk hr0_4; have HC0_4 := Aside0.mk hc0_4; clear hr0_4 hc0_4; have HR0_10 := Aside0.mk hr0_10; have HC0_10 := Aside0.mk hc0_10; clear hr0_10 hc0_10; have HB := Aside0.mk (Below.refl w.heap.size w)
 have H : ((impl_MachineOk.f k l0_0 a0_1 a0_2 a0_3 l0_4 a0_5 a0_6 a0_7 a0_8 a0_9 l0_10).bind fun t103 => (if t103 = true then ((impl_leftOf.f k a0_1 a0_2 l0_4).bind fun bt104 => (some (bt104.1, bt104.2, true))) else (some (0, (⟨#[]⟩ : ByteArray), false)))) = some (r1, r2, r3) := h
 clear h
 replace H := Option.bind_eq_some_iff.mp H
 obtain ⟨t103, A20, H⟩ := H
 replace H : (if t103 = true then ((impl_leftOf.f k a0_1 a0_2 l0_4).bind fun bt104 => (some (bt104.1, bt104.2, true))) else (some (0, (⟨#[]⟩ : ByteArray), false))) = some (r1, r2, r3) := H
 have A2 := Aside0.mk A20; clear A20
 by_cases c3 : t103 = true
 ·subst c3
  have H1 : ((impl_leftOf.f k a0_1 a0_2 l0_4).bind fun bt104 => (some (bt104.1, bt104.2, true))) = some (r1, r2, r3) := by rw [if_pos rfl] at H; exact H
  clear H; have H := H1; clear H1
  replace H := Option.bind_eq_some_iff.mp H
  obtain ⟨⟨t104, t105⟩, A40, H⟩ := H
  replace H : (some (t104, t105, true)) = some (r1, r2, r3) := H
  have A4 := Aside0.mk A40; clear A40
  simp only [Option.some.injEq, Prod.mk.injEq] at H
  obtain ⟨rfl, rfl, rfl⟩ := H
  go_enter Try.func36, Try.ntmps36
  go_wp2_with (first | ((with_reducible refine gate_dst (N := 1) rfl ?_); refine box_event ?hg (N := 1) ?hd (cs := #[.slice A0_0 l0_0.length c0_0, .int .i64 a0_1, .string a0_2, .int .i64 a0_3, .slice A0_4 l0_4.length c0_4, .int .i64 a0_5, .bool a0_6, .int .i64 a0_7, .int .i64 a0_8, .int .i64 a0_9, .slice A0_10 l0_10.length c0_10]) (t := 36) ?hr ?_; (case hd => rfl); (case hg => rfl); (case hr => first | (go_simp; done) | (go_simp; rfl)); intro gb101 hg w5 hbox hb; have n0_ := bs0 HB hb; have n1_ := Aside0.mk (hbox); have n2_ := bz0 hg HB; have n3_ := bz0 hg HB; clear HB; have HB := n0_; have BK101 := n1_; have GW101 := n2_; have GE101 := n3_; clear n0_ n1_ n2_ n3_; clear hb hbox hg) | ((with_reducible refine gate_dst (N := 2) rfl ?_); refine box_event ?hg (N := 2) ?hd (cs := #[.int .i64 0, .string (⟨#[]⟩ : ByteArray)]) (t := 29) ?hr ?_; (case hd => rfl); (case hg => rfl); (case hr => first | (go_simp; done) | (go_simp; rfl)); intro gb102 hg w6 hbox hb; have n0_ := bb BK101 hb; have n1_ := bs1 HB hb GE101; have n2_ := Aside0.mk (hbox); have n3_ := bz1 hg HB GE101; have n4_ := bz1 hg HB GE101; have n5_ := nl hg BK101; have n6_ := ng hg BK101; clear BK101; clear HB; have BK101 := n0_; have HB := n1_; have BK102 := n2_; have GW102 := n3_; have GE102 := n4_; have NB101_102 := n5_; have NB102_101 := n6_; clear n0_ n1_ n2_ n3_ n4_ n5_ n6_; clear hb hbox hg; have hnb7 := NB101_102.out; have hnc7 := NB102_101.out; have hcz8_0 : w6.cell? ⟨gb101, 0, none⟩ = some (.slice A0_0 l0_0.length c0_0) := (blk_cell BK101.out 0).trans rfl; have hcz8_1 : w6.cell? ⟨gb101, 1, none⟩ = some (.int .i64 a0_1) := (blk_cell BK101.out 1).trans rfl; have hcz8_2 : w6.cell? ⟨gb101, 2, none⟩ = some (.string a0_2) := (blk_cell BK101.out 2).trans rfl; have hcz8_3 : w6.cell? ⟨gb101, 3, none⟩ = some (.int .i64 a0_3) := (blk_cell BK101.out 3).trans rfl; have hcz8_4 : w6.cell? ⟨gb101, 4, none⟩ = some (.slice A0_4 l0_4.length c0_4) := (blk_cell BK101.out 4).trans rfl; have hcz8_5 : w6.cell? ⟨gb101, 5, none⟩ = some (.int .i64 a0_5) := (blk_cell BK101.out 5).trans rfl; have hcz8_6 : w6.cell? ⟨gb101, 6, none⟩ = some (.bool a0_6) := (blk_cell BK101.out 6).trans rfl; have hcz8_7 : w6.cell? ⟨gb101, 7, none⟩ = some (.int .i64 a0_7) := (blk_cell BK101.out 7).trans rfl; have hcz8_8 : w6.cell? ⟨gb101, 8, none⟩ = some (.int .i64 a0_8) := (blk_cell BK101.out 8).trans rfl; have hcz8_9 : w6.cell? ⟨gb101, 9, none⟩ = some (.int .i64 a0_9) := (blk_cell BK101.out 9).trans rfl; have hcz8_10 : w6.cell? ⟨gb101, 10, none⟩ = some (.slice A0_10 l0_10.length c0_10) := (blk_cell BK101.out 10).trans rfl; have hfz8_0 := blk_frozen BK101.out 0; have hfz8_1 := blk_frozen BK101.out 1; have hfz8_2 := blk_frozen BK101.out 2; have hfz8_3 := blk_frozen BK101.out 3; have hfz8_4 := blk_frozen BK101.out 4; have hfz8_5 := blk_frozen BK101.out 5; have hfz8_6 := blk_frozen BK101.out 6; have hfz8_7 := blk_frozen BK101.out 7; have hfz8_8 := blk_frozen BK101.out 8; have hfz8_9 := blk_frozen BK101.out 9; have hfz8_10 := blk_frozen BK101.out 10) | ((with_reducible refine gate_callee (f := 32) rfl ?_); refine goesL_ (some 5) rfl rfl Try.func32 (by kernel_rfl) rfl #[.agg #[.slice A0_0 l0_0.length c0_0, .int .i64 a0_1, .string a0_2, .int .i64 a0_3, .slice A0_4 l0_4.length c0_4, .int .i64 a0_5, .bool a0_6, .int .i64 a0_7, .int .i64 a0_8, .int .i64 a0_9, .slice A0_10 l0_10.length c0_10]] rfl (by (try simp only [List.map_toArray, List.map_cons, List.map_nil]); first | done | rfl | (simp only [List.length_drop, List.length_take]; rfl)) ?_; (with_reducible refine (impl_MachineOk.calls k _ _ l0_0 a0_1 a0_2 a0_3 _ _ l0_4 a0_5 a0_6 a0_7 a0_8 a0_9 _ _ l0_10 true _ ?side1 ?side2 ?side3 ?side4 ?side5 ?side6 A2.out).mono ?_); (case side1 => repeat (first | exact (Kd.C_below HR0_0.out HB.out) | (with_reducible refine Kd.C_alloc ?_ _) | (with_reducible refine Kd.C_drewN ?_ _) | (with_reducible refine Kd.C_drew ?_))); (case side2 => exact HC0_0.out); (case side3 => repeat (first | exact (Kd.C_below HR0_4.out HB.out) | (with_reducible refine Kd.C_alloc ?_ _) | (with_reducible refine Kd.C_drewN ?_ _) | (with_reducible refine Kd.C_drew ?_))); (case side4 => exact HC0_4.out); (case side5 => repeat (first | exact (Kd.C_below HR0_10.out HB.out) | (with_reducible refine Kd.C_alloc ?_ _) | (with_reducible refine Kd.C_drewN ?_ _) | (with_reducible refine Kd.C_drew ?_))); (case side6 => exact HC0_10.out); rintro e w9 ⟨rfl, hb⟩; refine ⟨_, rfl, ?_⟩; have n0_ := bb BK101 hb; have n1_ := bb BK102 hb; have n2_ := bs2 HB hb GE101 GE102; clear BK101; clear BK102; clear HB; have BK101 := n0_; have BK102 := n1_; have HB := n2_; clear n0_ n1_ n2_; (try clear hb); (try clear hb2); (try clear hk); (try clear hi); have hcz10_0 : w9.cell? ⟨gb101, 0, none⟩ = some (.slice A0_0 l0_0.length c0_0) := (blk_cell BK101.out 0).trans rfl; have hcz10_1 : w9.cell? ⟨gb101, 1, none⟩ = some (.int .i64 a0_1) := (blk_cell BK101.out 1).trans rfl; have hcz10_2 : w9.cell? ⟨gb101, 2, none⟩ = some (.string a0_2) := (blk_cell BK101.out 2).trans rfl; have hcz10_3 : w9.cell? ⟨gb101, 3, none⟩ = some (.int .i64 a0_3) := (blk_cell BK101.out 3).trans rfl; have hcz10_4 : w9.cell? ⟨gb101, 4, none⟩ = some (.slice A0_4 l0_4.length c0_4) := (blk_cell BK101.out 4).trans rfl; have hcz10_5 : w9.cell? ⟨gb101, 5, none⟩ = some (.int .i64 a0_5) := (blk_cell BK101.out 5).trans rfl; have hcz10_6 : w9.cell? ⟨gb101, 6, none⟩ = some (.bool a0_6) := (blk_cell BK101.out 6).trans rfl; have hcz10_7 : w9.cell? ⟨gb101, 7, none⟩ = some (.int .i64 a0_7) := (blk_cell BK101.out 7).trans rfl; have hcz10_8 : w9.cell? ⟨gb101, 8, none⟩ = some (.int .i64 a0_8) := (blk_cell BK101.out 8).trans rfl; have hcz10_9 : w9.cell? ⟨gb101, 9, none⟩ = some (.int .i64 a0_9) := (blk_cell BK101.out 9).trans rfl; have hcz10_10 : w9.cell? ⟨gb101, 10, none⟩ = some (.slice A0_10 l0_10.length c0_10) := (blk_cell BK101.out 10).trans rfl; have hfz10_0 := blk_frozen BK101.out 0; have hfz10_1 := blk_frozen BK101.out 1; have hfz10_2 := blk_frozen BK101.out 2; have hfz10_3 := blk_frozen BK101.out 3; have hfz10_4 := blk_frozen BK101.out 4; have hfz10_5 := blk_frozen BK101.out 5; have hfz10_6 := blk_frozen BK101.out 6; have hfz10_7 := blk_frozen BK101.out 7; have hfz10_8 := blk_frozen BK101.out 8; have hfz10_9 := blk_frozen BK101.out 9; have hfz10_10 := blk_frozen BK101.out 10) | ((with_reducible refine gate_callee (f := 80) rfl ?_); refine goesL_ (some 12) rfl rfl Try.func80 (by kernel_rfl) rfl #[.agg #[.int .i64 a0_1, .string a0_2], .slice A0_4 l0_4.length c0_4] rfl (by (try simp only [List.map_toArray, List.map_cons, List.map_nil]); first | done | rfl | (simp only [List.length_drop, List.length_take]; rfl)) ?_; (with_reducible refine (impl_leftOf.calls k a0_1 a0_2 _ _ l0_4 t104 t105 _ ?side1 ?side2 A4.out).mono ?_); (case side1 => repeat (first | exact (Kd.C_below HR0_4.out HB.out) | (with_reducible refine Kd.C_alloc ?_ _) | (with_reducible refine Kd.C_drewN ?_ _) | (with_reducible refine Kd.C_drew ?_))); (case side2 => exact HC0_4.out); rintro e w11 ⟨rfl, hb⟩; refine ⟨_, rfl, ?_⟩; have n0_ := bb BK101 hb; have n1_ := bb BK102 hb; have n2_ := bs2 HB hb GE101 GE102; clear BK101; clear BK102; clear HB; have BK101 := n0_; have BK102 := n1_; have HB := n2_; clear n0_ n1_ n2_; (try clear hb); (try clear hb2); (try clear hk); (try clear hi); have hcz12_0 : w11.cell? ⟨gb102, 0, none⟩ = some (.int .i64 0) := (blk_cell BK102.out 0).trans rfl; have hcz12_1 : w11.cell? ⟨gb102, 1, none⟩ = some (.string (⟨#[]⟩ : ByteArray)) := (blk_cell BK102.out 1).trans rfl; have hfz12_0 := blk_frozen BK102.out 0; have hfz12_1 := blk_frozen BK102.out 1))
  refine bodyPost_ret (results_ct rfl _ _ gb102 29 #[.int .i64 t104, .string t105] (0, 0) _ rfl (by (with_reducible repeat (first | refine blk_drewN ?_ _ | refine blk_drew ?_ | refine blk_alloc ?_ _)); exact bp2 BK102.out) Try.underlying29 rfl (by kernel_rfl)) rfl ?_
  exact ⟨by first | rfl | (simp [errW_none, errW_some] <;> rfl) | (simp [*, errW_none, errW_some] <;> rfl), by repeat (first | (with_reducible first | exact HB.out | apply below_alloc | apply pw_below_drewN | apply below_drew1 | refine below_set ?_ GE101.out | refine below_set ?_ GE102.out) | exact HB.out)⟩
 ·replace c3 := Bool.eq_false_iff.mpr c3
  subst c3
  have H1 : (some (0, (⟨#[]⟩ : ByteArray), false)) = some (r1, r2, r3) := by rw [if_neg (show ¬ (false = true) by decide)] at H; exact H
  clear H; have H := H1; clear H1
  simp only [Option.some.injEq, Prod.mk.injEq] at H
  obtain ⟨rfl, rfl, rfl⟩ := H
  go_enter Try.func36, Try.ntmps36
  go_wp2_with (first | ((with_reducible refine gate_dst (N := 1) rfl ?_); refine box_event ?hg (N := 1) ?hd (cs := #[.slice A0_0 l0_0.length c0_0, .int .i64 a0_1, .string a0_2, .int .i64 a0_3, .slice A0_4 l0_4.length c0_4, .int .i64 a0_5, .bool a0_6, .int .i64 a0_7, .int .i64 a0_8, .int .i64 a0_9, .slice A0_10 l0_10.length c0_10]) (t := 36) ?hr ?_; (case hd => rfl); (case hg => rfl); (case hr => first | (go_simp; done) | (go_simp; rfl)); intro gb101 hg w13 hbox hb; have n0_ := bs0 HB hb; have n1_ := Aside0.mk (hbox); have n2_ := bz0 hg HB; have n3_ := bz0 hg HB; clear HB; have HB := n0_; have BK101 := n1_; have GW101 := n2_; have GE101 := n3_; clear n0_ n1_ n2_ n3_; clear hb hbox hg) | ((with_reducible refine gate_dst (N := 2) rfl ?_); refine box_event ?hg (N := 2) ?hd (cs := #[.int .i64 0, .string (⟨#[]⟩ : ByteArray)]) (t := 29) ?hr ?_; (case hd => rfl); (case hg => rfl); (case hr => first | (go_simp; done) | (go_simp; rfl)); intro gb102 hg w14 hbox hb; have n0_ := bb BK101 hb; have n1_ := bs1 HB hb GE101; have n2_ := Aside0.mk (hbox); have n3_ := bz1 hg HB GE101; have n4_ := bz1 hg HB GE101; have n5_ := nl hg BK101; have n6_ := ng hg BK101; clear BK101; clear HB; have BK101 := n0_; have HB := n1_; have BK102 := n2_; have GW102 := n3_; have GE102 := n4_; have NB101_102 := n5_; have NB102_101 := n6_; clear n0_ n1_ n2_ n3_ n4_ n5_ n6_; clear hb hbox hg; have hnb15 := NB101_102.out; have hnc15 := NB102_101.out; have hcz16_0 : w14.cell? ⟨gb101, 0, none⟩ = some (.slice A0_0 l0_0.length c0_0) := (blk_cell BK101.out 0).trans rfl; have hcz16_1 : w14.cell? ⟨gb101, 1, none⟩ = some (.int .i64 a0_1) := (blk_cell BK101.out 1).trans rfl; have hcz16_2 : w14.cell? ⟨gb101, 2, none⟩ = some (.string a0_2) := (blk_cell BK101.out 2).trans rfl; have hcz16_3 : w14.cell? ⟨gb101, 3, none⟩ = some (.int .i64 a0_3) := (blk_cell BK101.out 3).trans rfl; have hcz16_4 : w14.cell? ⟨gb101, 4, none⟩ = some (.slice A0_4 l0_4.length c0_4) := (blk_cell BK101.out 4).trans rfl; have hcz16_5 : w14.cell? ⟨gb101, 5, none⟩ = some (.int .i64 a0_5) := (blk_cell BK101.out 5).trans rfl; have hcz16_6 : w14.cell? ⟨gb101, 6, none⟩ = some (.bool a0_6) := (blk_cell BK101.out 6).trans rfl; have hcz16_7 : w14.cell? ⟨gb101, 7, none⟩ = some (.int .i64 a0_7) := (blk_cell BK101.out 7).trans rfl; have hcz16_8 : w14.cell? ⟨gb101, 8, none⟩ = some (.int .i64 a0_8) := (blk_cell BK101.out 8).trans rfl; have hcz16_9 : w14.cell? ⟨gb101, 9, none⟩ = some (.int .i64 a0_9) := (blk_cell BK101.out 9).trans rfl; have hcz16_10 : w14.cell? ⟨gb101, 10, none⟩ = some (.slice A0_10 l0_10.length c0_10) := (blk_cell BK101.out 10).trans rfl; have hfz16_0 := blk_frozen BK101.out 0; have hfz16_1 := blk_frozen BK101.out 1; have hfz16_2 := blk_frozen BK101.out 2; have hfz16_3 := blk_frozen BK101.out 3; have hfz16_4 := blk_frozen BK101.out 4; have hfz16_5 := blk_frozen BK101.out 5; have hfz16_6 := blk_frozen BK101.out 6; have hfz16_7 := blk_frozen BK101.out 7; have hfz16_8 := blk_frozen BK101.out 8; have hfz16_9 := blk_frozen BK101.out 9; have hfz16_10 := blk_frozen BK101.out 10) | ((with_reducible refine gate_callee (f := 32) rfl ?_); refine goesL_ (some 5) rfl rfl Try.func32 (by kernel_rfl) rfl #[.agg #[.slice A0_0 l0_0.length c0_0, .int .i64 a0_1, .string a0_2, .int .i64 a0_3, .slice A0_4 l0_4.length c0_4, .int .i64 a0_5, .bool a0_6, .int .i64 a0_7, .int .i64 a0_8, .int .i64 a0_9, .slice A0_10 l0_10.length c0_10]] rfl (by (try simp only [List.map_toArray, List.map_cons, List.map_nil]); first | done | rfl | (simp only [List.length_drop, List.length_take]; rfl)) ?_; (with_reducible refine (impl_MachineOk.calls k _ _ l0_0 a0_1 a0_2 a0_3 _ _ l0_4 a0_5 a0_6 a0_7 a0_8 a0_9 _ _ l0_10 false _ ?side1 ?side2 ?side3 ?side4 ?side5 ?side6 A2.out).mono ?_); (case side1 => repeat (first | exact (Kd.C_below HR0_0.out HB.out) | (with_reducible refine Kd.C_alloc ?_ _) | (with_reducible refine Kd.C_drewN ?_ _) | (with_reducible refine Kd.C_drew ?_))); (case side2 => exact HC0_0.out); (case side3 => repeat (first | exact (Kd.C_below HR0_4.out HB.out) | (with_reducible refine Kd.C_alloc ?_ _) | (with_reducible refine Kd.C_drewN ?_ _) | (with_reducible refine Kd.C_drew ?_))); (case side4 => exact HC0_4.out); (case side5 => repeat (first | exact (Kd.C_below HR0_10.out HB.out) | (with_reducible refine Kd.C_alloc ?_ _) | (with_reducible refine Kd.C_drewN ?_ _) | (with_reducible refine Kd.C_drew ?_))); (case side6 => exact HC0_10.out); rintro e w17 ⟨rfl, hb⟩; refine ⟨_, rfl, ?_⟩; have n0_ := bb BK101 hb; have n1_ := bb BK102 hb; have n2_ := bs2 HB hb GE101 GE102; clear BK101; clear BK102; clear HB; have BK101 := n0_; have BK102 := n1_; have HB := n2_; clear n0_ n1_ n2_; (try clear hb); (try clear hb2); (try clear hk); (try clear hi); have hcz18_0 : w17.cell? ⟨gb102, 0, none⟩ = some (.int .i64 0) := (blk_cell BK102.out 0).trans rfl; have hcz18_1 : w17.cell? ⟨gb102, 1, none⟩ = some (.string (⟨#[]⟩ : ByteArray)) := (blk_cell BK102.out 1).trans rfl; have hfz18_0 := blk_frozen BK102.out 0; have hfz18_1 := blk_frozen BK102.out 1))
  refine bodyPost_ret (results_ct rfl _ _ gb102 29 #[.int .i64 0, .string (⟨#[]⟩ : ByteArray)] (0, 0) _ rfl (by (with_reducible repeat (first | refine blk_drewN ?_ _ | refine blk_drew ?_ | refine blk_alloc ?_ _)); exact bp2 BK102.out) Try.underlying29 rfl (by kernel_rfl)) rfl ?_
  exact ⟨by first | rfl | (simp [errW_none, errW_some] <;> rfl) | (simp [*, errW_none, errW_some] <;> rfl), by repeat (first | (with_reducible first | exact HB.out | apply below_alloc | apply pw_below_drewN | apply below_drew1 | refine below_set ?_ GE101.out | refine below_set ?_ GE102.out) | exact HB.out)⟩

end Go.Proofs.Ytlpfmhikahlcoaa.G
-- written by a program of this session (wip/gen/gen.py); Lean checks it
namespace Go.Proofs.Ytlpfmhikahlcoaa.G
open Go.RowKit Go.Proofs.YtlpfmhikahlcoaaW.PrintWords Go.Proofs.YtlpfmhikahlcoaaW.PrintLast Go.Proofs.YtlpfmhikahlcoaaW.PrintMore
attribute [local go_sem] max2_int min2_int max_two min_two max_three min_three max_four min_four   -- for this text's walks alone
set_option linter.unusedVariables false
set_option linter.unusedSimpArgs false

/-! ### laws_eqBoolS: function 20 -/
def laws_eqBoolS.l0 : Nat → List Bool → List Bool → Int → Option (Bool)
  | 0, _, _, _ => none
  | k + 1, x0, x1, x5 => if x5 < (x0.length : Int) then (if 0 ≤ x5 then (if x5 < (x1.length : Int) then (if ((rdOf false x0 x5) != (rdOf false x1 x5)) = true then (some false) else (laws_eqBoolS.l0 k x0 x1 (wrap64 (x5 + 1)))) else (none)) else (none)) else (some true)
def laws_eqBoolS.f (k : Nat) (l0 : List Bool) (l1 : List Bool) : Option (Bool) := if (l0.length : Int) = (l1.length : Int) then (laws_eqBoolS.l0 k l0 l1 0) else (some false)
set_option maxHeartbeats 8000000 in
set_option maxRecDepth 100000 in
theorem laws_eqBoolS.calls (k : Nat) (A0 : Option Addr) (c0 : Nat) (l0 : List Bool) (A1 : Option Addr) (c1 : Nat) (l1 : List Bool) (r : Bool) (w : World) (hr0 : Kd.C Kd.bool w A0 l0.length l0) (hc0 : l0.length ≤ c0) (hr1 : Kd.C Kd.bool w A1 l1.length l1) (hc1 : l1.length ≤ c1) (h : laws_eqBoolS.f k l0 l1 = some r) :
    Calls Try.prog 20 #[.slice A0 l0.length c0, .slice A1 l1.length c1] w fun e w' => e = .returned (.bool r) ∧ Drawn0 w w' := by
  have HR0 := Aside0.mk hr0
  have HC0 := Aside0.mk hc0
  clear hr0 hc0
  have HR1 := Aside0.mk hr1
  have HC1 := Aside0.mk hc1
  clear hr1 hc1
  have H : (if (l0.length : Int) = (l1.length : Int) then (laws_eqBoolS.l0 k l0 l1 0) else (some false)) = some r := h
  clear h
  by_cases c3 : (l0.length : Int) = (l1.length : Int)
  · rw [if_pos c3] at H
    have c3b0 : ((l0.length : Int) == (l1.length : Int)) = true := beq_iff_eq.mpr c3
    have c3b1 : ((l0.length : Int) != (l1.length : Int)) = false := bne_eq_false_iff_eq.mpr c3
    have c3b2 : (l0.length == l1.length) = true := by first | simpa using c3 | (simp at c3 ⊢; omega)
    clear c3
    have H' := Aside0.mk H
    clear H
    go_enter Try.func20, Try.ntmps20
    go_wp2
    repeat (go_quiet (fail); try go_wp2)
    go_loopg [5] k (fun kq v5 w' => ∃ (x5_1 : Int), v5 = .int .i64 x5_1 ∧ Aside0 (laws_eqBoolS.l0 kq l0 l1 x5_1 = some r) ∧ Aside0 (kq ≤ k) ∧ Drawn0 w w')
    case atStart => exact ⟨(0), (by first | rfl | (simp; done) | (simp [*]; done)), H', ⟨Nat.le_refl _⟩, by repeat (first | exact Drawn0.refl _ | apply Drawn0.step)⟩
    case round =>
      clear H'
      try clear c1
      try clear c2
      try clear p2
      try clear c3
      try clear c3b0
      try clear c3b1
      try clear c3b2
      obtain ⟨x5_1, rfl, HA, HK1, ⟨m1, rfl⟩⟩ := hrel
      cases gk with
      | zero => exact absurd HA.out (by simp [laws_eqBoolS.l0])
      | succ k1 =>
        have H := HA.out
        clear HA
        simp only [laws_eqBoolS.l0] at H
        by_cases c4 : x5_1 < (l0.length : Int)
        · rw [if_pos c4] at H
          have c4b0 : decide (x5_1 < (l0.length : Int)) = true := decide_eq_true c4
          clear c4
          by_cases c5 : 0 ≤ x5_1
          · rw [if_pos c5] at H
            have c5b0 : decide (0 ≤ x5_1) = true := decide_eq_true c5
            clear c5
            by_cases c6 : x5_1 < (l1.length : Int)
            · rw [if_pos c6] at H
              have c6b0 : decide (x5_1 < (l1.length : Int)) = true := decide_eq_true c6
              clear c6
              by_cases c7 : ((rdOf false l0 x5_1) != (rdOf false l1 x5_1)) = true
              · rw [if_pos c7] at H
                have c7b0 : ((rdOf false l0 x5_1) != (rdOf false l1 x5_1)) = true := c7
                (try (have c7b1 : decide ((rdOf false l0 x5_1) = (rdOf false l1 x5_1)) = false := by simpa using c7))
                (try (have c7b2 : ((rdOf false l0 x5_1) == (rdOf false l1 x5_1)) = false := by simpa using c7))
                (try (have c7b3 : ¬ ((rdOf false l0 x5_1) = (rdOf false l1 x5_1)) := by simpa using c7))
                clear c7
                obtain rfl := Option.some.inj H
                have p101 : 0 ≤ (x5_1 : Int) := of_decide_eq_true (by first | (with_reducible assumption) | assumption)
                have q101 : x5_1 < (l0.length : Int) := of_decide_eq_true (by first | (with_reducible assumption) | assumption)
                obtain ⟨ad101, e101, hx101_0⟩ := Kd.at_bool HR0.out x5_1 p101 q101
                cases e101
                replace p101 := eq_true p101
                replace q101 := eq_true q101
                have p102 : 0 ≤ (x5_1 : Int) := of_decide_eq_true (by first | (with_reducible assumption) | assumption)
                have q102 : x5_1 < (l1.length : Int) := of_decide_eq_true (by first | (with_reducible assumption) | assumption)
                obtain ⟨ad102, e102, hx102_0⟩ := Kd.at_bool HR1.out x5_1 p102 q102
                cases e102
                replace p102 := eq_true p102
                replace q102 := eq_true q102
                go_wp2
                repeat (go_quiet (fail); try go_wp2)
                go_ret
                exact ⟨by first | rfl | (simp; done) | (simp [*]; done), by repeat (first | exact Drawn0.refl _ | apply Drawn0.step)⟩
              · rw [if_neg c7] at H
                have c7b0 : ((rdOf false l0 x5_1) != (rdOf false l1 x5_1)) = false := by simpa using c7
                (try (have c7b1 : decide ((rdOf false l0 x5_1) = (rdOf false l1 x5_1)) = true := by simpa using c7))
                (try (have c7b2 : ((rdOf false l0 x5_1) == (rdOf false l1 x5_1)) = true := by simpa using c7))
                clear c7
                have H' := Aside0.mk H
                clear H
                have p101 : 0 ≤ (x5_1 : Int) := of_decide_eq_true (by first | (with_reducible assumption) | assumption)
                have q101 : x5_1 < (l0.length : Int) := of_decide_eq_true (by first | (with_reducible assumption) | assumption)
                obtain ⟨ad101, e101, hx101_0⟩ := Kd.at_bool HR0.out x5_1 p101 q101
                cases e101
                replace p101 := eq_true p101
                replace q101 := eq_true q101
                have p102 : 0 ≤ (x5_1 : Int) := of_decide_eq_true (by first | (with_reducible assumption) | assumption)
                have q102 : x5_1 < (l1.length : Int) := of_decide_eq_true (by first | (with_reducible assumption) | assumption)
                obtain ⟨ad102, e102, hx102_0⟩ := Kd.at_bool HR1.out x5_1 p102 q102
                cases e102
                replace p102 := eq_true p102
                replace q102 := eq_true q102
                go_wp2
                repeat (go_quiet (fail); try go_wp2)
                go_roundg k1
                case measure => have := HK1.out; omega
                case rel => exact ⟨(wrap64 (x5_1 + 1)), (by first | rfl | (simp; done) | (simp [*]; done)), H', ⟨by have := HK1.out; omega⟩, by repeat (first | exact Drawn0.refl _ | apply Drawn0.step)⟩
            · rw [if_neg c6] at H
              exact absurd H (by simp)
          · rw [if_neg c5] at H
            exact absurd H (by simp)
        · rw [if_neg c4] at H
          have c4b0 : decide (x5_1 < (l0.length : Int)) = false := decide_eq_false c4
          clear c4
          obtain rfl := Option.some.inj H
          go_wp2
          repeat (go_quiet (fail); try go_wp2)
          go_ret
          exact ⟨by first | rfl | (simp; done) | (simp [*]; done), by repeat (first | exact Drawn0.refl _ | apply Drawn0.step)⟩
  · rw [if_neg c3] at H
    have c3b0 : ((l0.length : Int) == (l1.length : Int)) = false := beq_eq_false_iff_ne.mpr c3
    have c3b1 : ((l0.length : Int) != (l1.length : Int)) = true := bne_iff_ne.mpr c3
    have c3b2 : (l0.length == l1.length) = false := by first | simpa using c3 | (simp at c3 ⊢; omega)
    obtain rfl := Option.some.inj H
    go_enter Try.func20, Try.ntmps20
    go_wp2
    repeat (go_quiet (fail); try go_wp2)
    go_ret
    exact ⟨by first | rfl | (simp; done) | (simp [*]; done), by repeat (first | exact Drawn0.refl _ | apply Drawn0.step)⟩

end Go.Proofs.Ytlpfmhikahlcoaa.G
-- written by a program of this session (wip/gen/gen.py); Lean checks it
namespace Go.Proofs.Ytlpfmhikahlcoaa.G
open Go.RowKit Go.Proofs.YtlpfmhikahlcoaaW.PrintWords Go.Proofs.YtlpfmhikahlcoaaW.PrintLast Go.Proofs.YtlpfmhikahlcoaaW.PrintMore
attribute [local go_sem] max2_int min2_int max_two min_two max_three min_three max_four min_four   -- for this text's walks alone
set_option linter.unusedVariables false
set_option linter.unusedSimpArgs false

/-! ### laws_eqIntS: function 65 -/
def laws_eqIntS.l0 : Nat → List Int → List Int → Int → Option (Bool)
  | 0, _, _, _ => none
  | k + 1, x0, x1, x5 => if x5 < (x0.length : Int) then (if 0 ≤ x5 then (if x5 < (x1.length : Int) then (if (rd x0 x5) = (rd x1 x5) then (laws_eqIntS.l0 k x0 x1 (wrap64 (x5 + 1))) else (some false)) else (none)) else (none)) else (some true)
def laws_eqIntS.f (k : Nat) (l0 : List Int) (l1 : List Int) : Option (Bool) := if (l0.length : Int) = (l1.length : Int) then (laws_eqIntS.l0 k l0 l1 0) else (some false)
set_option maxHeartbeats 8000000 in
set_option maxRecDepth 100000 in
theorem laws_eqIntS.calls (k : Nat) (A0 : Option Addr) (c0 : Nat) (l0 : List Int) (A1 : Option Addr) (c1 : Nat) (l1 : List Int) (r : Bool) (w : World) (hr0 : Kd.C (Kd.int .i64) w A0 l0.length l0) (hc0 : l0.length ≤ c0) (hr1 : Kd.C (Kd.int .i64) w A1 l1.length l1) (hc1 : l1.length ≤ c1) (h : laws_eqIntS.f k l0 l1 = some r) :
    Calls Try.prog 65 #[.slice A0 l0.length c0, .slice A1 l1.length c1] w fun e w' => e = .returned (.bool r) ∧ Drawn0 w w' := by
  have HR0 := Aside0.mk hr0
  have HC0 := Aside0.mk hc0
  clear hr0 hc0
  have HR1 := Aside0.mk hr1
  have HC1 := Aside0.mk hc1
  clear hr1 hc1
  have H : (if (l0.length : Int) = (l1.length : Int) then (laws_eqIntS.l0 k l0 l1 0) else (some false)) = some r := h
  clear h
  by_cases c3 : (l0.length : Int) = (l1.length : Int)
  · rw [if_pos c3] at H
    have c3b0 : ((l0.length : Int) == (l1.length : Int)) = true := beq_iff_eq.mpr c3
    have c3b1 : ((l0.length : Int) != (l1.length : Int)) = false := bne_eq_false_iff_eq.mpr c3
    have c3b2 : (l0.length == l1.length) = true := by first | simpa using c3 | (simp at c3 ⊢; omega)
    clear c3
    have H' := Aside0.mk H
    clear H
    go_enter Try.func65, Try.ntmps65
    go_wp2
    repeat (go_quiet (fail); try go_wp2)
    go_loopg [5] k (fun kq v5 w' => ∃ (x5_1 : Int), v5 = .int .i64 x5_1 ∧ Aside0 (laws_eqIntS.l0 kq l0 l1 x5_1 = some r) ∧ Aside0 (kq ≤ k) ∧ Drawn0 w w')
    case atStart => exact ⟨(0), (by first | rfl | (simp; done) | (simp [*]; done)), H', ⟨Nat.le_refl _⟩, by repeat (first | exact Drawn0.refl _ | apply Drawn0.step)⟩
    case round =>
      clear H'
      try clear c1
      try clear p2
      try clear c3
      try clear c3b0
      try clear c3b1
      try clear c3b2
      obtain ⟨x5_1, rfl, HA, HK1, ⟨m1, rfl⟩⟩ := hrel
      cases gk with
      | zero => exact absurd HA.out (by simp [laws_eqIntS.l0])
      | succ k1 =>
        have H := HA.out
        clear HA
        simp only [laws_eqIntS.l0] at H
        by_cases c4 : x5_1 < (l0.length : Int)
        · rw [if_pos c4] at H
          have c4b0 : decide (x5_1 < (l0.length : Int)) = true := decide_eq_true c4
          clear c4
          by_cases c5 : 0 ≤ x5_1
          · rw [if_pos c5] at H
            have c5b0 : decide (0 ≤ x5_1) = true := decide_eq_true c5
            clear c5
            by_cases c6 : x5_1 < (l1.length : Int)
            · rw [if_pos c6] at H
              have c6b0 : decide (x5_1 < (l1.length : Int)) = true := decide_eq_true c6
              clear c6
              by_cases c7 : (rd l0 x5_1) = (rd l1 x5_1)
              · rw [if_pos c7] at H
                have c7b0 : ((rd l0 x5_1) == (rd l1 x5_1)) = true := beq_iff_eq.mpr c7
                have c7b1 : ((rd l0 x5_1) != (rd l1 x5_1)) = false := bne_eq_false_iff_eq.mpr c7
                clear c7
                have H' := Aside0.mk H
                clear H
                have p101 : 0 ≤ (x5_1 : Int) := of_decide_eq_true (by first | (with_reducible assumption) | assumption)
                have q101 : x5_1 < (l0.length : Int) := of_decide_eq_true (by first | (with_reducible assumption) | assumption)
                obtain ⟨ad101, e101, hx101_0⟩ := Kd.at_int HR0.out x5_1 p101 q101
                cases e101
                replace p101 := eq_true p101
                replace q101 := eq_true q101
                have p102 : 0 ≤ (x5_1 : Int) := of_decide_eq_true (by first | (with_reducible assumption) | assumption)
                have q102 : x5_1 < (l1.length : Int) := of_decide_eq_true (by first | (with_reducible assumption) | assumption)
                obtain ⟨ad102, e102, hx102_0⟩ := Kd.at_int HR1.out x5_1 p102 q102
                cases e102
                replace p102 := eq_true p102
                replace q102 := eq_true q102
                go_wp2
                repeat (go_quiet (fail); try go_wp2)
                go_roundg k1
                case measure => have := HK1.out; omega
                case rel => exact ⟨(wrap64 (x5_1 + 1)), (by first | rfl | (simp; done) | (simp [*]; done)), H', ⟨by have := HK1.out; omega⟩, by repeat (first | exact Drawn0.refl _ | apply Drawn0.step)⟩
              · rw [if_neg c7] at H
                have c7b0 : ((rd l0 x5_1) == (rd l1 x5_1)) = false := beq_eq_false_iff_ne.mpr c7
                have c7b1 : ((rd l0 x5_1) != (rd l1 x5_1)) = true := bne_iff_ne.mpr c7
                obtain rfl := Option.some.inj H
                have p101 : 0 ≤ (x5_1 : Int) := of_decide_eq_true (by first | (with_reducible assumption) | assumption)
                have q101 : x5_1 < (l0.length : Int) := of_decide_eq_true (by first | (with_reducible assumption) | assumption)
                obtain ⟨ad101, e101, hx101_0⟩ := Kd.at_int HR0.out x5_1 p101 q101
                cases e101
                replace p101 := eq_true p101
                replace q101 := eq_true q101
                have p102 : 0 ≤ (x5_1 : Int) := of_decide_eq_true (by first | (with_reducible assumption) | assumption)
                have q102 : x5_1 < (l1.length : Int) := of_decide_eq_true (by first | (with_reducible assumption) | assumption)
                obtain ⟨ad102, e102, hx102_0⟩ := Kd.at_int HR1.out x5_1 p102 q102
                cases e102
                replace p102 := eq_true p102
                replace q102 := eq_true q102
                go_wp2
                repeat (go_quiet (fail); try go_wp2)
                go_ret
                exact ⟨by first | rfl | (simp; done) | (simp [*]; done), by repeat (first | exact Drawn0.refl _ | apply Drawn0.step)⟩
            · rw [if_neg c6] at H
              exact absurd H (by simp)
          · rw [if_neg c5] at H
            exact absurd H (by simp)
        · rw [if_neg c4] at H
          have c4b0 : decide (x5_1 < (l0.length : Int)) = false := decide_eq_false c4
          clear c4
          obtain rfl := Option.some.inj H
          go_wp2
          repeat (go_quiet (fail); try go_wp2)
          go_ret
          exact ⟨by first | rfl | (simp; done) | (simp [*]; done), by repeat (first | exact Drawn0.refl _ | apply Drawn0.step)⟩
  · rw [if_neg c3] at H
    have c3b0 : ((l0.length : Int) == (l1.length : Int)) = false := beq_eq_false_iff_ne.mpr c3
    have c3b1 : ((l0.length : Int) != (l1.length : Int)) = true := bne_iff_ne.mpr c3
    have c3b2 : (l0.length == l1.length) = false := by first | simpa using c3 | (simp at c3 ⊢; omega)
    obtain rfl := Option.some.inj H
    go_enter Try.func65, Try.ntmps65
    go_wp2
    repeat (go_quiet (fail); try go_wp2)
    go_ret
    exact ⟨by first | rfl | (simp; done) | (simp [*]; done), by repeat (first | exact Drawn0.refl _ | apply Drawn0.step)⟩

end Go.Proofs.Ytlpfmhikahlcoaa.G
