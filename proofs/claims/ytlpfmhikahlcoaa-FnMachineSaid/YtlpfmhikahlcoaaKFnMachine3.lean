-- texts of this session, merged by a program of it (wip/gen/pack.py)
import Derived.Test.YtlpfmhikahlcoaaKFnMachine2
import Derived.Test.YtlpfmhikahlcoaaKFnMachine1
import Derived.Shelf.Strings.Search3
import Derived.Shelf.Strings.Count
import Derived.Test.YtlpfmhikahlcoaaProg
import Derived.Lib.IndexAny
namespace Go.Proofs.Ytlpfmhikahlcoaa.G
open Go.Proofs.Ytlpfmhikahlcoaa.Sh Go.RowKit Go.Proofs.YtlpfmhikahlcoaaW.PrintWords Go.Proofs.YtlpfmhikahlcoaaW.PrintLast Go.Proofs.YtlpfmhikahlcoaaW.PrintMore
attribute [local go_sem] max2_int min2_int max_two min_two max_three min_three max_four min_four   -- for this text's walks alone
set_option linter.unusedVariables false
set_option linter.unusedSimpArgs false
open Go.Proofs.Ytlpfmhikahlcoaa.Mp
def decMem (x : ByteArray) : (l : List ByteArray) → Decidable (x ∈ l)
  | [] => isFalse (by simp)
  | a :: r => if h : x = a then isTrue (by rw [h]; simp) else match decMem x r with
    | isTrue h' => isTrue (List.mem_cons_of_mem _ h')
    | isFalse h' => isFalse (fun h2 => (List.mem_cons.1 h2).elim h h')
instance (x : ByteArray) (l : List ByteArray) : Decidable (x ∈ l) := decMem x l
def okSeen (L : List (S86)) (i : Nat) : Prop := ((rd_T86 L i).f1 = 0 ∨ (rd_T86 L i).f1 = 1) ∧ (rd_T86 L i).f0 ∉ ((L.take i).map fun s => s.f0 : List ByteArray)
instance (L : List (S86)) (i : Nat) : Decidable (okSeen L i) := by unfold okSeen; infer_instance
def okMemo (L : List (S86)) : Prop := ∀ i, i < L.length → okSeen L i
instance (L : List (S86)) : Decidable (okMemo L) := by unfold okMemo; infer_instance
def okFront (room : Int) (nm nv : Nat) (N : Int) : Bool := decide (0 ≤ room ∧ room ≤ 40) && !decide ((nm : Int) > room) && !decide ((nv : Int) > N)
def okRet (ret : Int) (over : Bool) (nv : Nat) : Bool := decide (-1 ≤ ret ∧ ret ≤ 1) && !(over && (decide (ret < 0) || decide ((nv : Int) > 0)))
def okCounts (a b c : Int) : Bool := decide (0 ≤ a ∧ a ≤ 1000000000) && decide (0 ≤ b ∧ b ≤ 1000000000) && decide (0 ≤ c ∧ c ≤ 1000000000)
def impl_MachineOk.f (k : Nat) (l0_0 : List Bool) (a0_1 : Int) (a0_2 : ByteArray) (a0_3 : Int) (l0_4 : List Int) (a0_5 : Int) (a0_6 : Bool) (a0_7 : Int) (a0_8 : Int) (a0_9 : Int) (l0_10 : List (S86)) : Option Bool :=
 if ∀ s ∈ l0_10, s.f0.size ≤ maxLen then
  (impl_rowed.f k l0_0 a0_1 a0_2).bind fun t1 => (impl_placeOfBits.f k l0_4).bind fun t2 =>
   some (t1 && okFront a0_3 l0_10.length l0_4.length a0_1 && t2.2 && okRet a0_5 a0_6 l0_4.length && decide (okMemo l0_10) && okCounts a0_7 a0_8 a0_9)
 else none
theorem strKey (x : ByteArray) (h : x.size ≤ maxLen) : (keyOf Try.prog 9 (.string x)).isSome = true := by
 rw [WideMaps.keyOf_string_mk Try.underlying9 h]; rfl
theorem strCodec : Codec Try.prog 9 Value.string (fun s => s.size ≤ maxLen) := ⟨Go.Maps.string_keyed Try.underlying9, strKey, fun x y h => by injection h⟩
theorem zeroInt (w : World) : (zeroValue 3).run Try.prog w = .ok (.int .i64 0) w := by kernel_rfl
def seenMap (L : List (S86)) (i : Nat) : List (ByteArray × Int) := ((L.take i).map fun s => (s.f0, 1)).reverse
theorem mget_ones (x : ByteArray) : ∀ l : List (S86), mget (l.map fun s => (s.f0, (1 : Int))) x = if x ∈ (l.map (fun s => s.f0) : List ByteArray) then 1 else 0 := by
 intro l
 induction l with
  | nil => rfl
  | cons a r ih =>
  simp only [List.map_cons, mget, List.mem_cons]
  by_cases h : a.f0 = x
  ·rw [if_pos h, if_pos (.inl h.symm)]
  ·rw [if_neg h, ih]
   by_cases h' : x ∈ (r.map (fun s => s.f0) : List ByteArray)
   ·rw [if_pos h', if_pos (.inr h')]
   ·rw [if_neg h', if_neg (fun h2 => h2.elim (fun h2 => h h2.symm) h')]
theorem mget_seen (L : List (S86)) (i : Nat) (x : ByteArray) : mget (seenMap L i) x = if x ∈ ((L.take i).map (fun s => s.f0) : List ByteArray) then 1 else 0 := by
 unfold seenMap
 rw [← List.map_reverse, mget_ones]
 simp only [List.map_reverse, List.mem_reverse]
theorem seenMap_succ (L : List (S86)) (i : Nat) (hi : i < L.length) : seenMap L (i + 1) = ((rd_T86 L i).f0, 1) :: seenMap L i := by
 unfold seenMap
 rw [List.take_add_one, List.map_append, List.reverse_append, List.getElem?_eq_getElem hi]
 simp [rd_T86, List.getD_eq_getElem?_getD, List.getElem?_eq_getElem hi]
theorem within_eq (a b c : Int) : impl_within.f a b c = some (decide (b ≤ a ∧ a ≤ c)) := by
 unfold impl_within.f
 by_cases h : a ≥ b
 ·rw [if_pos h]; simp [h]
 ·rw [if_neg h]; simp [h]
theorem isCount_eq (a : Int) : impl_isCount.f a = some (decide (0 ≤ a ∧ a ≤ 1000000000)) := by
 unfold impl_isCount.f; rw [within_eq]; rfl
set_option maxHeartbeats 80000000 in
set_option maxRecDepth 100000 in
theorem mok_1 (k : Nat) (A0_0 : Option Addr) (c0_0 : Nat) (l0_0 : List Bool) (a0_1 : Int) (a0_2 : ByteArray) (a0_3 : Int) (A0_4 : Option Addr) (c0_4 : Nat) (l0_4 : List Int) (a0_5 : Int) (a0_6 : Bool) (a0_7 : Int) (a0_8 : Int) (a0_9 : Int) (A0_10 : Option Addr) (c0_10 : Nat) (l0_10 : List (S86)) (w : World) (hr0_0 : Kd.C Kd.bool w A0_0 l0_0.length l0_0) (hc0_0 : l0_0.length ≤ c0_0) (hr0_4 : Kd.C (Kd.int .i64) w A0_4 l0_4.length l0_4) (hc0_4 : l0_4.length ≤ c0_4) (hr0_10 : Kd.C k86 w A0_10 l0_10.length l0_10) (hc0_10 : l0_10.length ≤ c0_10) (h1 : Aside0 (impl_rowed.f k l0_0 a0_1 a0_2 = some false)) :
  Calls Try.prog 32 #[.agg #[.slice A0_0 l0_0.length c0_0, .int .i64 a0_1, .string a0_2, .int .i64 a0_3, .slice A0_4 l0_4.length c0_4, .int .i64 a0_5, .bool a0_6, .int .i64 a0_7, .int .i64 a0_8, .int .i64 a0_9, .slice A0_10 l0_10.length c0_10]] w fun e w' => e = .returned (.bool false) ∧ Below w.heap.size w w' := by
   go_enter Try.func32, Try.ntmps32
   go_wp2_with (first | ((with_reducible refine gate_dst (N := 1) rfl ?_); refine box_event ?hg (N := 1) ?hd (cs := #[.slice A0_0 l0_0.length c0_0, .int .i64 a0_1, .string a0_2, .int .i64 a0_3, .slice A0_4 l0_4.length c0_4, .int .i64 a0_5, .bool a0_6, .int .i64 a0_7, .int .i64 a0_8, .int .i64 a0_9, .slice A0_10 l0_10.length c0_10]) (t := 36) ?hr ?_; (case hd => rfl); (case hg => rfl); (case hr => first | (go_simp; done) | (go_simp; rfl)); intro gb hg w3 hbox hb; have HB := Aside0.mk hb; have BK := Aside0.mk hbox; have GE := Aside0.mk (by rw [hg]; exact Nat.le_refl _ : w.heap.size ≤ gb); clear hb hbox hg; have hcz0 : w3.cell? ⟨gb, 0, none⟩ = some (.slice A0_0 l0_0.length c0_0) := (blk_cell BK.out 0).trans rfl; have hcz1 : w3.cell? ⟨gb, 1, none⟩ = some (.int .i64 a0_1) := (blk_cell BK.out 1).trans rfl; have hcz2 : w3.cell? ⟨gb, 2, none⟩ = some (.string a0_2) := (blk_cell BK.out 2).trans rfl; have hcz3 : w3.cell? ⟨gb, 3, none⟩ = some (.int .i64 a0_3) := (blk_cell BK.out 3).trans rfl; have hcz4 : w3.cell? ⟨gb, 4, none⟩ = some (.slice A0_4 l0_4.length c0_4) := (blk_cell BK.out 4).trans rfl; have hcz5 : w3.cell? ⟨gb, 5, none⟩ = some (.int .i64 a0_5) := (blk_cell BK.out 5).trans rfl; have hcz6 : w3.cell? ⟨gb, 6, none⟩ = some (.bool a0_6) := (blk_cell BK.out 6).trans rfl; have hcz7 : w3.cell? ⟨gb, 7, none⟩ = some (.int .i64 a0_7) := (blk_cell BK.out 7).trans rfl; have hcz8 : w3.cell? ⟨gb, 8, none⟩ = some (.int .i64 a0_8) := (blk_cell BK.out 8).trans rfl; have hcz9 : w3.cell? ⟨gb, 9, none⟩ = some (.int .i64 a0_9) := (blk_cell BK.out 9).trans rfl; have hcz10 : w3.cell? ⟨gb, 10, none⟩ = some (.slice A0_10 l0_10.length c0_10) := (blk_cell BK.out 10).trans rfl) | ((with_reducible refine gate_callee (f := 59) rfl ?_); (try (refine gate_guard (by rfl) ?_; dsimp only)); refine goesL_ (some 12) rfl rfl Try.func59 (by kernel_rfl) rfl #[.slice A0_0 l0_0.length c0_0, .agg #[.int .i64 a0_1, .string a0_2]] rfl (by (try simp only [List.map_toArray, List.map_cons, List.map_nil]); first | done | rfl) ?_; (with_reducible refine (impl_rowed.calls k _ _ l0_0 a0_1 a0_2 false _ ?side1 hc0_0 h1.out).mono ?_); (case side1 => exact Kd.C_below hr0_0 HB.out); rintro e w4 ⟨rfl, hb⟩; refine ⟨_, rfl, ?_⟩; have HB4 := Aside0.mk (below_step HB.out hb); have BK4 := Aside0.mk (blk_below BK.out hb); clear hb HB BK; clear hcz0 hcz1 hcz2 hcz3 hcz4 hcz5 hcz6 hcz7 hcz8 hcz9 hcz10; have hcy0 : w4.cell? ⟨gb, 0, none⟩ = some (.slice A0_0 l0_0.length c0_0) := (blk_cell BK4.out 0).trans rfl; have hcy1 : w4.cell? ⟨gb, 1, none⟩ = some (.int .i64 a0_1) := (blk_cell BK4.out 1).trans rfl; have hcy2 : w4.cell? ⟨gb, 2, none⟩ = some (.string a0_2) := (blk_cell BK4.out 2).trans rfl; have hcy3 : w4.cell? ⟨gb, 3, none⟩ = some (.int .i64 a0_3) := (blk_cell BK4.out 3).trans rfl; have hcy4 : w4.cell? ⟨gb, 4, none⟩ = some (.slice A0_4 l0_4.length c0_4) := (blk_cell BK4.out 4).trans rfl; have hcy5 : w4.cell? ⟨gb, 5, none⟩ = some (.int .i64 a0_5) := (blk_cell BK4.out 5).trans rfl; have hcy6 : w4.cell? ⟨gb, 6, none⟩ = some (.bool a0_6) := (blk_cell BK4.out 6).trans rfl; have hcy7 : w4.cell? ⟨gb, 7, none⟩ = some (.int .i64 a0_7) := (blk_cell BK4.out 7).trans rfl; have hcy8 : w4.cell? ⟨gb, 8, none⟩ = some (.int .i64 a0_8) := (blk_cell BK4.out 8).trans rfl; have hcy9 : w4.cell? ⟨gb, 9, none⟩ = some (.int .i64 a0_9) := (blk_cell BK4.out 9).trans rfl; have hcy10 : w4.cell? ⟨gb, 10, none⟩ = some (.slice A0_10 l0_10.length c0_10) := (blk_cell BK4.out 10).trans rfl))
   go_ret
   exact ⟨rfl, by repeat (first | (with_reducible first | exact HB4.out | exact HB.out | apply below_alloc | apply pw_below_drewN | apply below_drew1) | exact HB4.out | exact HB.out)⟩
set_option maxHeartbeats 80000000 in
set_option maxRecDepth 100000 in
theorem mok_2 (k : Nat) (A0_0 : Option Addr) (c0_0 : Nat) (l0_0 : List Bool) (a0_1 : Int) (a0_2 : ByteArray) (a0_3 : Int) (A0_4 : Option Addr) (c0_4 : Nat) (l0_4 : List Int) (a0_5 : Int) (a0_6 : Bool) (a0_7 : Int) (a0_8 : Int) (a0_9 : Int) (A0_10 : Option Addr) (c0_10 : Nat) (l0_10 : List (S86)) (w : World) (hr0_0 : Kd.C Kd.bool w A0_0 l0_0.length l0_0) (hc0_0 : l0_0.length ≤ c0_0) (hr0_4 : Kd.C (Kd.int .i64) w A0_4 l0_4.length l0_4) (hc0_4 : l0_4.length ≤ c0_4) (hr0_10 : Kd.C k86 w A0_10 l0_10.length l0_10) (hc0_10 : l0_10.length ≤ c0_10) (h1 : Aside0 (impl_rowed.f k l0_0 a0_1 a0_2 = some true)) (h2 : Aside0 (impl_within.f a0_3 0 40 = some false)) :
  Calls Try.prog 32 #[.agg #[.slice A0_0 l0_0.length c0_0, .int .i64 a0_1, .string a0_2, .int .i64 a0_3, .slice A0_4 l0_4.length c0_4, .int .i64 a0_5, .bool a0_6, .int .i64 a0_7, .int .i64 a0_8, .int .i64 a0_9, .slice A0_10 l0_10.length c0_10]] w fun e w' => e = .returned (.bool false) ∧ Below w.heap.size w w' := by
   go_enter Try.func32, Try.ntmps32
   go_wp2_with (first | ((with_reducible refine gate_dst (N := 1) rfl ?_); refine box_event ?hg (N := 1) ?hd (cs := #[.slice A0_0 l0_0.length c0_0, .int .i64 a0_1, .string a0_2, .int .i64 a0_3, .slice A0_4 l0_4.length c0_4, .int .i64 a0_5, .bool a0_6, .int .i64 a0_7, .int .i64 a0_8, .int .i64 a0_9, .slice A0_10 l0_10.length c0_10]) (t := 36) ?hr ?_; (case hd => rfl); (case hg => rfl); (case hr => first | (go_simp; done) | (go_simp; rfl)); intro gb hg w3 hbox hb; have HB := Aside0.mk hb; have BK := Aside0.mk hbox; have GE := Aside0.mk (by rw [hg]; exact Nat.le_refl _ : w.heap.size ≤ gb); clear hb hbox hg; have hcz0 : w3.cell? ⟨gb, 0, none⟩ = some (.slice A0_0 l0_0.length c0_0) := (blk_cell BK.out 0).trans rfl; have hcz1 : w3.cell? ⟨gb, 1, none⟩ = some (.int .i64 a0_1) := (blk_cell BK.out 1).trans rfl; have hcz2 : w3.cell? ⟨gb, 2, none⟩ = some (.string a0_2) := (blk_cell BK.out 2).trans rfl; have hcz3 : w3.cell? ⟨gb, 3, none⟩ = some (.int .i64 a0_3) := (blk_cell BK.out 3).trans rfl; have hcz4 : w3.cell? ⟨gb, 4, none⟩ = some (.slice A0_4 l0_4.length c0_4) := (blk_cell BK.out 4).trans rfl; have hcz5 : w3.cell? ⟨gb, 5, none⟩ = some (.int .i64 a0_5) := (blk_cell BK.out 5).trans rfl; have hcz6 : w3.cell? ⟨gb, 6, none⟩ = some (.bool a0_6) := (blk_cell BK.out 6).trans rfl; have hcz7 : w3.cell? ⟨gb, 7, none⟩ = some (.int .i64 a0_7) := (blk_cell BK.out 7).trans rfl; have hcz8 : w3.cell? ⟨gb, 8, none⟩ = some (.int .i64 a0_8) := (blk_cell BK.out 8).trans rfl; have hcz9 : w3.cell? ⟨gb, 9, none⟩ = some (.int .i64 a0_9) := (blk_cell BK.out 9).trans rfl; have hcz10 : w3.cell? ⟨gb, 10, none⟩ = some (.slice A0_10 l0_10.length c0_10) := (blk_cell BK.out 10).trans rfl) | ((with_reducible refine gate_callee (f := 59) rfl ?_); (try (refine gate_guard (by rfl) ?_; dsimp only)); refine goesL_ (some 12) rfl rfl Try.func59 (by kernel_rfl) rfl #[.slice A0_0 l0_0.length c0_0, .agg #[.int .i64 a0_1, .string a0_2]] rfl (by (try simp only [List.map_toArray, List.map_cons, List.map_nil]); first | done | rfl) ?_; (with_reducible refine (impl_rowed.calls k _ _ l0_0 a0_1 a0_2 true _ ?side1 hc0_0 h1.out).mono ?_); (case side1 => exact Kd.C_below hr0_0 HB.out); rintro e w4 ⟨rfl, hb⟩; refine ⟨_, rfl, ?_⟩; have HB4 := Aside0.mk (below_step HB.out hb); have BK4 := Aside0.mk (blk_below BK.out hb); clear hb HB BK; clear hcz0 hcz1 hcz2 hcz3 hcz4 hcz5 hcz6 hcz7 hcz8 hcz9 hcz10; have hcy0 : w4.cell? ⟨gb, 0, none⟩ = some (.slice A0_0 l0_0.length c0_0) := (blk_cell BK4.out 0).trans rfl; have hcy1 : w4.cell? ⟨gb, 1, none⟩ = some (.int .i64 a0_1) := (blk_cell BK4.out 1).trans rfl; have hcy2 : w4.cell? ⟨gb, 2, none⟩ = some (.string a0_2) := (blk_cell BK4.out 2).trans rfl; have hcy3 : w4.cell? ⟨gb, 3, none⟩ = some (.int .i64 a0_3) := (blk_cell BK4.out 3).trans rfl; have hcy4 : w4.cell? ⟨gb, 4, none⟩ = some (.slice A0_4 l0_4.length c0_4) := (blk_cell BK4.out 4).trans rfl; have hcy5 : w4.cell? ⟨gb, 5, none⟩ = some (.int .i64 a0_5) := (blk_cell BK4.out 5).trans rfl; have hcy6 : w4.cell? ⟨gb, 6, none⟩ = some (.bool a0_6) := (blk_cell BK4.out 6).trans rfl; have hcy7 : w4.cell? ⟨gb, 7, none⟩ = some (.int .i64 a0_7) := (blk_cell BK4.out 7).trans rfl; have hcy8 : w4.cell? ⟨gb, 8, none⟩ = some (.int .i64 a0_8) := (blk_cell BK4.out 8).trans rfl; have hcy9 : w4.cell? ⟨gb, 9, none⟩ = some (.int .i64 a0_9) := (blk_cell BK4.out 9).trans rfl; have hcy10 : w4.cell? ⟨gb, 10, none⟩ = some (.slice A0_10 l0_10.length c0_10) := (blk_cell BK4.out 10).trans rfl) | (go_at_call 64; (try simp only [i64_w, i32_w]); (with_reducible refine (impl_within.calls a0_3 0 40 false _ h2.out).mono ?_); rintro e w' ⟨rfl, ⟨nd, rfl⟩⟩))
   go_ret
   exact ⟨rfl, by repeat (first | (with_reducible first | exact HB4.out | exact HB.out | apply below_alloc | apply pw_below_drewN | apply below_drew1) | exact HB4.out | exact HB.out)⟩
set_option maxHeartbeats 80000000 in
set_option maxRecDepth 100000 in
theorem mok_3 (k : Nat) (A0_0 : Option Addr) (c0_0 : Nat) (l0_0 : List Bool) (a0_1 : Int) (a0_2 : ByteArray) (a0_3 : Int) (A0_4 : Option Addr) (c0_4 : Nat) (l0_4 : List Int) (a0_5 : Int) (a0_6 : Bool) (a0_7 : Int) (a0_8 : Int) (a0_9 : Int) (A0_10 : Option Addr) (c0_10 : Nat) (l0_10 : List (S86)) (w : World) (hr0_0 : Kd.C Kd.bool w A0_0 l0_0.length l0_0) (hc0_0 : l0_0.length ≤ c0_0) (hr0_4 : Kd.C (Kd.int .i64) w A0_4 l0_4.length l0_4) (hc0_4 : l0_4.length ≤ c0_4) (hr0_10 : Kd.C k86 w A0_10 l0_10.length l0_10) (hc0_10 : l0_10.length ≤ c0_10) (h1 : Aside0 (impl_rowed.f k l0_0 a0_1 a0_2 = some true)) (h2 : Aside0 (impl_within.f a0_3 0 40 = some true)) (gm : decide ((l0_10.length : Int) > a0_3) = true) :
  Calls Try.prog 32 #[.agg #[.slice A0_0 l0_0.length c0_0, .int .i64 a0_1, .string a0_2, .int .i64 a0_3, .slice A0_4 l0_4.length c0_4, .int .i64 a0_5, .bool a0_6, .int .i64 a0_7, .int .i64 a0_8, .int .i64 a0_9, .slice A0_10 l0_10.length c0_10]] w fun e w' => e = .returned (.bool false) ∧ Below w.heap.size w w' := by
   have gm1 : decide (a0_3 < (l0_10.length : Int)) = true := gm
   go_enter Try.func32, Try.ntmps32
   go_wp2_with (first | ((with_reducible refine gate_dst (N := 1) rfl ?_); refine box_event ?hg (N := 1) ?hd (cs := #[.slice A0_0 l0_0.length c0_0, .int .i64 a0_1, .string a0_2, .int .i64 a0_3, .slice A0_4 l0_4.length c0_4, .int .i64 a0_5, .bool a0_6, .int .i64 a0_7, .int .i64 a0_8, .int .i64 a0_9, .slice A0_10 l0_10.length c0_10]) (t := 36) ?hr ?_; (case hd => rfl); (case hg => rfl); (case hr => first | (go_simp; done) | (go_simp; rfl)); intro gb hg w3 hbox hb; have HB := Aside0.mk hb; have BK := Aside0.mk hbox; have GE := Aside0.mk (by rw [hg]; exact Nat.le_refl _ : w.heap.size ≤ gb); clear hb hbox hg; have hcz0 : w3.cell? ⟨gb, 0, none⟩ = some (.slice A0_0 l0_0.length c0_0) := (blk_cell BK.out 0).trans rfl; have hcz1 : w3.cell? ⟨gb, 1, none⟩ = some (.int .i64 a0_1) := (blk_cell BK.out 1).trans rfl; have hcz2 : w3.cell? ⟨gb, 2, none⟩ = some (.string a0_2) := (blk_cell BK.out 2).trans rfl; have hcz3 : w3.cell? ⟨gb, 3, none⟩ = some (.int .i64 a0_3) := (blk_cell BK.out 3).trans rfl; have hcz4 : w3.cell? ⟨gb, 4, none⟩ = some (.slice A0_4 l0_4.length c0_4) := (blk_cell BK.out 4).trans rfl; have hcz5 : w3.cell? ⟨gb, 5, none⟩ = some (.int .i64 a0_5) := (blk_cell BK.out 5).trans rfl; have hcz6 : w3.cell? ⟨gb, 6, none⟩ = some (.bool a0_6) := (blk_cell BK.out 6).trans rfl; have hcz7 : w3.cell? ⟨gb, 7, none⟩ = some (.int .i64 a0_7) := (blk_cell BK.out 7).trans rfl; have hcz8 : w3.cell? ⟨gb, 8, none⟩ = some (.int .i64 a0_8) := (blk_cell BK.out 8).trans rfl; have hcz9 : w3.cell? ⟨gb, 9, none⟩ = some (.int .i64 a0_9) := (blk_cell BK.out 9).trans rfl; have hcz10 : w3.cell? ⟨gb, 10, none⟩ = some (.slice A0_10 l0_10.length c0_10) := (blk_cell BK.out 10).trans rfl) | ((with_reducible refine gate_callee (f := 59) rfl ?_); (try (refine gate_guard (by rfl) ?_; dsimp only)); refine goesL_ (some 12) rfl rfl Try.func59 (by kernel_rfl) rfl #[.slice A0_0 l0_0.length c0_0, .agg #[.int .i64 a0_1, .string a0_2]] rfl (by (try simp only [List.map_toArray, List.map_cons, List.map_nil]); first | done | rfl) ?_; (with_reducible refine (impl_rowed.calls k _ _ l0_0 a0_1 a0_2 true _ ?side1 hc0_0 h1.out).mono ?_); (case side1 => exact Kd.C_below hr0_0 HB.out); rintro e w4 ⟨rfl, hb⟩; refine ⟨_, rfl, ?_⟩; have HB4 := Aside0.mk (below_step HB.out hb); have BK4 := Aside0.mk (blk_below BK.out hb); clear hb HB BK; clear hcz0 hcz1 hcz2 hcz3 hcz4 hcz5 hcz6 hcz7 hcz8 hcz9 hcz10; have hcy0 : w4.cell? ⟨gb, 0, none⟩ = some (.slice A0_0 l0_0.length c0_0) := (blk_cell BK4.out 0).trans rfl; have hcy1 : w4.cell? ⟨gb, 1, none⟩ = some (.int .i64 a0_1) := (blk_cell BK4.out 1).trans rfl; have hcy2 : w4.cell? ⟨gb, 2, none⟩ = some (.string a0_2) := (blk_cell BK4.out 2).trans rfl; have hcy3 : w4.cell? ⟨gb, 3, none⟩ = some (.int .i64 a0_3) := (blk_cell BK4.out 3).trans rfl; have hcy4 : w4.cell? ⟨gb, 4, none⟩ = some (.slice A0_4 l0_4.length c0_4) := (blk_cell BK4.out 4).trans rfl; have hcy5 : w4.cell? ⟨gb, 5, none⟩ = some (.int .i64 a0_5) := (blk_cell BK4.out 5).trans rfl; have hcy6 : w4.cell? ⟨gb, 6, none⟩ = some (.bool a0_6) := (blk_cell BK4.out 6).trans rfl; have hcy7 : w4.cell? ⟨gb, 7, none⟩ = some (.int .i64 a0_7) := (blk_cell BK4.out 7).trans rfl; have hcy8 : w4.cell? ⟨gb, 8, none⟩ = some (.int .i64 a0_8) := (blk_cell BK4.out 8).trans rfl; have hcy9 : w4.cell? ⟨gb, 9, none⟩ = some (.int .i64 a0_9) := (blk_cell BK4.out 9).trans rfl; have hcy10 : w4.cell? ⟨gb, 10, none⟩ = some (.slice A0_10 l0_10.length c0_10) := (blk_cell BK4.out 10).trans rfl) | (go_at_call 64; (try simp only [i64_w, i32_w]); (with_reducible refine (impl_within.calls a0_3 0 40 true _ h2.out).mono ?_); rintro e w' ⟨rfl, ⟨nd, rfl⟩⟩))
   go_ret
   exact ⟨rfl, by repeat (first | (with_reducible first | exact HB4.out | exact HB.out | apply below_alloc | apply pw_below_drewN | apply below_drew1) | exact HB4.out | exact HB.out)⟩
set_option maxHeartbeats 80000000 in
set_option maxRecDepth 100000 in
theorem mok_4 (k : Nat) (A0_0 : Option Addr) (c0_0 : Nat) (l0_0 : List Bool) (a0_1 : Int) (a0_2 : ByteArray) (a0_3 : Int) (A0_4 : Option Addr) (c0_4 : Nat) (l0_4 : List Int) (a0_5 : Int) (a0_6 : Bool) (a0_7 : Int) (a0_8 : Int) (a0_9 : Int) (A0_10 : Option Addr) (c0_10 : Nat) (l0_10 : List (S86)) (w : World) (hr0_0 : Kd.C Kd.bool w A0_0 l0_0.length l0_0) (hc0_0 : l0_0.length ≤ c0_0) (hr0_4 : Kd.C (Kd.int .i64) w A0_4 l0_4.length l0_4) (hc0_4 : l0_4.length ≤ c0_4) (hr0_10 : Kd.C k86 w A0_10 l0_10.length l0_10) (hc0_10 : l0_10.length ≤ c0_10) (h1 : Aside0 (impl_rowed.f k l0_0 a0_1 a0_2 = some true)) (h2 : Aside0 (impl_within.f a0_3 0 40 = some true)) (gm : decide ((l0_10.length : Int) > a0_3) = false) (gv : decide ((l0_4.length : Int) > a0_1) = true) :
  Calls Try.prog 32 #[.agg #[.slice A0_0 l0_0.length c0_0, .int .i64 a0_1, .string a0_2, .int .i64 a0_3, .slice A0_4 l0_4.length c0_4, .int .i64 a0_5, .bool a0_6, .int .i64 a0_7, .int .i64 a0_8, .int .i64 a0_9, .slice A0_10 l0_10.length c0_10]] w fun e w' => e = .returned (.bool false) ∧ Below w.heap.size w w' := by
   have gm1 : decide (a0_3 < (l0_10.length : Int)) = false := gm; have gv1 : decide (a0_1 < (l0_4.length : Int)) = true := gv
   go_enter Try.func32, Try.ntmps32
   go_wp2_with (first | ((with_reducible refine gate_dst (N := 1) rfl ?_); refine box_event ?hg (N := 1) ?hd (cs := #[.slice A0_0 l0_0.length c0_0, .int .i64 a0_1, .string a0_2, .int .i64 a0_3, .slice A0_4 l0_4.length c0_4, .int .i64 a0_5, .bool a0_6, .int .i64 a0_7, .int .i64 a0_8, .int .i64 a0_9, .slice A0_10 l0_10.length c0_10]) (t := 36) ?hr ?_; (case hd => rfl); (case hg => rfl); (case hr => first | (go_simp; done) | (go_simp; rfl)); intro gb hg w3 hbox hb; have HB := Aside0.mk hb; have BK := Aside0.mk hbox; have GE := Aside0.mk (by rw [hg]; exact Nat.le_refl _ : w.heap.size ≤ gb); clear hb hbox hg; have hcz0 : w3.cell? ⟨gb, 0, none⟩ = some (.slice A0_0 l0_0.length c0_0) := (blk_cell BK.out 0).trans rfl; have hcz1 : w3.cell? ⟨gb, 1, none⟩ = some (.int .i64 a0_1) := (blk_cell BK.out 1).trans rfl; have hcz2 : w3.cell? ⟨gb, 2, none⟩ = some (.string a0_2) := (blk_cell BK.out 2).trans rfl; have hcz3 : w3.cell? ⟨gb, 3, none⟩ = some (.int .i64 a0_3) := (blk_cell BK.out 3).trans rfl; have hcz4 : w3.cell? ⟨gb, 4, none⟩ = some (.slice A0_4 l0_4.length c0_4) := (blk_cell BK.out 4).trans rfl; have hcz5 : w3.cell? ⟨gb, 5, none⟩ = some (.int .i64 a0_5) := (blk_cell BK.out 5).trans rfl; have hcz6 : w3.cell? ⟨gb, 6, none⟩ = some (.bool a0_6) := (blk_cell BK.out 6).trans rfl; have hcz7 : w3.cell? ⟨gb, 7, none⟩ = some (.int .i64 a0_7) := (blk_cell BK.out 7).trans rfl; have hcz8 : w3.cell? ⟨gb, 8, none⟩ = some (.int .i64 a0_8) := (blk_cell BK.out 8).trans rfl; have hcz9 : w3.cell? ⟨gb, 9, none⟩ = some (.int .i64 a0_9) := (blk_cell BK.out 9).trans rfl; have hcz10 : w3.cell? ⟨gb, 10, none⟩ = some (.slice A0_10 l0_10.length c0_10) := (blk_cell BK.out 10).trans rfl) | ((with_reducible refine gate_callee (f := 59) rfl ?_); (try (refine gate_guard (by rfl) ?_; dsimp only)); refine goesL_ (some 12) rfl rfl Try.func59 (by kernel_rfl) rfl #[.slice A0_0 l0_0.length c0_0, .agg #[.int .i64 a0_1, .string a0_2]] rfl (by (try simp only [List.map_toArray, List.map_cons, List.map_nil]); first | done | rfl) ?_; (with_reducible refine (impl_rowed.calls k _ _ l0_0 a0_1 a0_2 true _ ?side1 hc0_0 h1.out).mono ?_); (case side1 => exact Kd.C_below hr0_0 HB.out); rintro e w4 ⟨rfl, hb⟩; refine ⟨_, rfl, ?_⟩; have HB4 := Aside0.mk (below_step HB.out hb); have BK4 := Aside0.mk (blk_below BK.out hb); clear hb HB BK; clear hcz0 hcz1 hcz2 hcz3 hcz4 hcz5 hcz6 hcz7 hcz8 hcz9 hcz10; have hcy0 : w4.cell? ⟨gb, 0, none⟩ = some (.slice A0_0 l0_0.length c0_0) := (blk_cell BK4.out 0).trans rfl; have hcy1 : w4.cell? ⟨gb, 1, none⟩ = some (.int .i64 a0_1) := (blk_cell BK4.out 1).trans rfl; have hcy2 : w4.cell? ⟨gb, 2, none⟩ = some (.string a0_2) := (blk_cell BK4.out 2).trans rfl; have hcy3 : w4.cell? ⟨gb, 3, none⟩ = some (.int .i64 a0_3) := (blk_cell BK4.out 3).trans rfl; have hcy4 : w4.cell? ⟨gb, 4, none⟩ = some (.slice A0_4 l0_4.length c0_4) := (blk_cell BK4.out 4).trans rfl; have hcy5 : w4.cell? ⟨gb, 5, none⟩ = some (.int .i64 a0_5) := (blk_cell BK4.out 5).trans rfl; have hcy6 : w4.cell? ⟨gb, 6, none⟩ = some (.bool a0_6) := (blk_cell BK4.out 6).trans rfl; have hcy7 : w4.cell? ⟨gb, 7, none⟩ = some (.int .i64 a0_7) := (blk_cell BK4.out 7).trans rfl; have hcy8 : w4.cell? ⟨gb, 8, none⟩ = some (.int .i64 a0_8) := (blk_cell BK4.out 8).trans rfl; have hcy9 : w4.cell? ⟨gb, 9, none⟩ = some (.int .i64 a0_9) := (blk_cell BK4.out 9).trans rfl; have hcy10 : w4.cell? ⟨gb, 10, none⟩ = some (.slice A0_10 l0_10.length c0_10) := (blk_cell BK4.out 10).trans rfl) | (go_at_call 64; (try simp only [i64_w, i32_w]); (with_reducible refine (impl_within.calls a0_3 0 40 true _ h2.out).mono ?_); rintro e w' ⟨rfl, ⟨nd, rfl⟩⟩))
   go_ret
   exact ⟨rfl, by repeat (first | (with_reducible first | exact HB4.out | exact HB.out | apply below_alloc | apply pw_below_drewN | apply below_drew1) | exact HB4.out | exact HB.out)⟩
set_option maxHeartbeats 80000000 in
set_option maxRecDepth 100000 in
theorem mok_5 (k : Nat) (A0_0 : Option Addr) (c0_0 : Nat) (l0_0 : List Bool) (a0_1 : Int) (a0_2 : ByteArray) (a0_3 : Int) (A0_4 : Option Addr) (c0_4 : Nat) (l0_4 : List Int) (a0_5 : Int) (a0_6 : Bool) (a0_7 : Int) (a0_8 : Int) (a0_9 : Int) (A0_10 : Option Addr) (c0_10 : Nat) (l0_10 : List (S86)) (w : World) (hr0_0 : Kd.C Kd.bool w A0_0 l0_0.length l0_0) (hc0_0 : l0_0.length ≤ c0_0) (hr0_4 : Kd.C (Kd.int .i64) w A0_4 l0_4.length l0_4) (hc0_4 : l0_4.length ≤ c0_4) (hr0_10 : Kd.C k86 w A0_10 l0_10.length l0_10) (hc0_10 : l0_10.length ≤ c0_10) (h1 : Aside0 (impl_rowed.f k l0_0 a0_1 a0_2 = some true)) (h2 : Aside0 (impl_within.f a0_3 0 40 = some true)) (gm : decide ((l0_10.length : Int) > a0_3) = false) (gv : decide ((l0_4.length : Int) > a0_1) = false) (pv : Int) (h3 : Aside0 (impl_placeOfBits.f k l0_4 = some (pv, false))) :
  Calls Try.prog 32 #[.agg #[.slice A0_0 l0_0.length c0_0, .int .i64 a0_1, .string a0_2, .int .i64 a0_3, .slice A0_4 l0_4.length c0_4, .int .i64 a0_5, .bool a0_6, .int .i64 a0_7, .int .i64 a0_8, .int .i64 a0_9, .slice A0_10 l0_10.length c0_10]] w fun e w' => e = .returned (.bool false) ∧ Below w.heap.size w w' := by
   have gm1 : decide (a0_3 < (l0_10.length : Int)) = false := gm; have gv1 : decide (a0_1 < (l0_4.length : Int)) = false := gv
   go_enter Try.func32, Try.ntmps32
   go_wp2_with (first | ((with_reducible refine gate_dst (N := 1) rfl ?_); refine box_event ?hg (N := 1) ?hd (cs := #[.slice A0_0 l0_0.length c0_0, .int .i64 a0_1, .string a0_2, .int .i64 a0_3, .slice A0_4 l0_4.length c0_4, .int .i64 a0_5, .bool a0_6, .int .i64 a0_7, .int .i64 a0_8, .int .i64 a0_9, .slice A0_10 l0_10.length c0_10]) (t := 36) ?hr ?_; (case hd => rfl); (case hg => rfl); (case hr => first | (go_simp; done) | (go_simp; rfl)); intro gb hg w3 hbox hb; have HB := Aside0.mk hb; have BK := Aside0.mk hbox; have GE := Aside0.mk (by rw [hg]; exact Nat.le_refl _ : w.heap.size ≤ gb); clear hb hbox hg; have hcz0 : w3.cell? ⟨gb, 0, none⟩ = some (.slice A0_0 l0_0.length c0_0) := (blk_cell BK.out 0).trans rfl; have hcz1 : w3.cell? ⟨gb, 1, none⟩ = some (.int .i64 a0_1) := (blk_cell BK.out 1).trans rfl; have hcz2 : w3.cell? ⟨gb, 2, none⟩ = some (.string a0_2) := (blk_cell BK.out 2).trans rfl; have hcz3 : w3.cell? ⟨gb, 3, none⟩ = some (.int .i64 a0_3) := (blk_cell BK.out 3).trans rfl; have hcz4 : w3.cell? ⟨gb, 4, none⟩ = some (.slice A0_4 l0_4.length c0_4) := (blk_cell BK.out 4).trans rfl; have hcz5 : w3.cell? ⟨gb, 5, none⟩ = some (.int .i64 a0_5) := (blk_cell BK.out 5).trans rfl; have hcz6 : w3.cell? ⟨gb, 6, none⟩ = some (.bool a0_6) := (blk_cell BK.out 6).trans rfl; have hcz7 : w3.cell? ⟨gb, 7, none⟩ = some (.int .i64 a0_7) := (blk_cell BK.out 7).trans rfl; have hcz8 : w3.cell? ⟨gb, 8, none⟩ = some (.int .i64 a0_8) := (blk_cell BK.out 8).trans rfl; have hcz9 : w3.cell? ⟨gb, 9, none⟩ = some (.int .i64 a0_9) := (blk_cell BK.out 9).trans rfl; have hcz10 : w3.cell? ⟨gb, 10, none⟩ = some (.slice A0_10 l0_10.length c0_10) := (blk_cell BK.out 10).trans rfl) | ((with_reducible refine gate_callee (f := 59) rfl ?_); (try (refine gate_guard (by rfl) ?_; dsimp only)); refine goesL_ (some 12) rfl rfl Try.func59 (by kernel_rfl) rfl #[.slice A0_0 l0_0.length c0_0, .agg #[.int .i64 a0_1, .string a0_2]] rfl (by (try simp only [List.map_toArray, List.map_cons, List.map_nil]); first | done | rfl) ?_; (with_reducible refine (impl_rowed.calls k _ _ l0_0 a0_1 a0_2 true _ ?side1 hc0_0 h1.out).mono ?_); (case side1 => exact Kd.C_below hr0_0 HB.out); rintro e w4 ⟨rfl, hb⟩; refine ⟨_, rfl, ?_⟩; have HB4 := Aside0.mk (below_step HB.out hb); have BK4 := Aside0.mk (blk_below BK.out hb); clear hb HB BK; clear hcz0 hcz1 hcz2 hcz3 hcz4 hcz5 hcz6 hcz7 hcz8 hcz9 hcz10; have hcy0 : w4.cell? ⟨gb, 0, none⟩ = some (.slice A0_0 l0_0.length c0_0) := (blk_cell BK4.out 0).trans rfl; have hcy1 : w4.cell? ⟨gb, 1, none⟩ = some (.int .i64 a0_1) := (blk_cell BK4.out 1).trans rfl; have hcy2 : w4.cell? ⟨gb, 2, none⟩ = some (.string a0_2) := (blk_cell BK4.out 2).trans rfl; have hcy3 : w4.cell? ⟨gb, 3, none⟩ = some (.int .i64 a0_3) := (blk_cell BK4.out 3).trans rfl; have hcy4 : w4.cell? ⟨gb, 4, none⟩ = some (.slice A0_4 l0_4.length c0_4) := (blk_cell BK4.out 4).trans rfl; have hcy5 : w4.cell? ⟨gb, 5, none⟩ = some (.int .i64 a0_5) := (blk_cell BK4.out 5).trans rfl; have hcy6 : w4.cell? ⟨gb, 6, none⟩ = some (.bool a0_6) := (blk_cell BK4.out 6).trans rfl; have hcy7 : w4.cell? ⟨gb, 7, none⟩ = some (.int .i64 a0_7) := (blk_cell BK4.out 7).trans rfl; have hcy8 : w4.cell? ⟨gb, 8, none⟩ = some (.int .i64 a0_8) := (blk_cell BK4.out 8).trans rfl; have hcy9 : w4.cell? ⟨gb, 9, none⟩ = some (.int .i64 a0_9) := (blk_cell BK4.out 9).trans rfl; have hcy10 : w4.cell? ⟨gb, 10, none⟩ = some (.slice A0_10 l0_10.length c0_10) := (blk_cell BK4.out 10).trans rfl) | (go_at_call 64; (try simp only [i64_w, i32_w]); (with_reducible refine (impl_within.calls a0_3 0 40 true _ h2.out).mono ?_); rintro e w' ⟨rfl, ⟨nd, rfl⟩⟩) | (go_at_call 77; (try simp only [i64_w, i32_w]); refine (impl_placeOfBits.calls k _ _ l0_4 pv false _ ?_ hc0_4 h3.out).mono ?_; exact Kd.C_below hr0_4 (pw_below_drewN HB4.out _); rintro e w' ⟨rfl, ⟨nd, rfl⟩⟩))
   go_ret
   exact ⟨rfl, by repeat (first | (with_reducible first | exact HB4.out | exact HB.out | apply below_alloc | apply pw_below_drewN | apply below_drew1) | exact HB4.out | exact HB.out)⟩
set_option maxHeartbeats 80000000 in
set_option maxRecDepth 100000 in
theorem mok_6 (k : Nat) (A0_0 : Option Addr) (c0_0 : Nat) (l0_0 : List Bool) (a0_1 : Int) (a0_2 : ByteArray) (a0_3 : Int) (A0_4 : Option Addr) (c0_4 : Nat) (l0_4 : List Int) (a0_5 : Int) (a0_6 : Bool) (a0_7 : Int) (a0_8 : Int) (a0_9 : Int) (A0_10 : Option Addr) (c0_10 : Nat) (l0_10 : List (S86)) (w : World) (hr0_0 : Kd.C Kd.bool w A0_0 l0_0.length l0_0) (hc0_0 : l0_0.length ≤ c0_0) (hr0_4 : Kd.C (Kd.int .i64) w A0_4 l0_4.length l0_4) (hc0_4 : l0_4.length ≤ c0_4) (hr0_10 : Kd.C k86 w A0_10 l0_10.length l0_10) (hc0_10 : l0_10.length ≤ c0_10) (h1 : Aside0 (impl_rowed.f k l0_0 a0_1 a0_2 = some true)) (h2 : Aside0 (impl_within.f a0_3 0 40 = some true)) (gm : decide ((l0_10.length : Int) > a0_3) = false) (gv : decide ((l0_4.length : Int) > a0_1) = false) (pv : Int) (h3 : Aside0 (impl_placeOfBits.f k l0_4 = some (pv, true))) (h4 : Aside0 (impl_within.f a0_5 (-1) 1 = some false)) :
  Calls Try.prog 32 #[.agg #[.slice A0_0 l0_0.length c0_0, .int .i64 a0_1, .string a0_2, .int .i64 a0_3, .slice A0_4 l0_4.length c0_4, .int .i64 a0_5, .bool a0_6, .int .i64 a0_7, .int .i64 a0_8, .int .i64 a0_9, .slice A0_10 l0_10.length c0_10]] w fun e w' => e = .returned (.bool false) ∧ Below w.heap.size w w' := by
   have gm1 : decide (a0_3 < (l0_10.length : Int)) = false := gm; have gv1 : decide (a0_1 < (l0_4.length : Int)) = false := gv
   go_enter Try.func32, Try.ntmps32
   go_wp2_with (first | ((with_reducible refine gate_dst (N := 1) rfl ?_); refine box_event ?hg (N := 1) ?hd (cs := #[.slice A0_0 l0_0.length c0_0, .int .i64 a0_1, .string a0_2, .int .i64 a0_3, .slice A0_4 l0_4.length c0_4, .int .i64 a0_5, .bool a0_6, .int .i64 a0_7, .int .i64 a0_8, .int .i64 a0_9, .slice A0_10 l0_10.length c0_10]) (t := 36) ?hr ?_; (case hd => rfl); (case hg => rfl); (case hr => first | (go_simp; done) | (go_simp; rfl)); intro gb hg w3 hbox hb; have HB := Aside0.mk hb; have BK := Aside0.mk hbox; have GE := Aside0.mk (by rw [hg]; exact Nat.le_refl _ : w.heap.size ≤ gb); clear hb hbox hg; have hcz0 : w3.cell? ⟨gb, 0, none⟩ = some (.slice A0_0 l0_0.length c0_0) := (blk_cell BK.out 0).trans rfl; have hcz1 : w3.cell? ⟨gb, 1, none⟩ = some (.int .i64 a0_1) := (blk_cell BK.out 1).trans rfl; have hcz2 : w3.cell? ⟨gb, 2, none⟩ = some (.string a0_2) := (blk_cell BK.out 2).trans rfl; have hcz3 : w3.cell? ⟨gb, 3, none⟩ = some (.int .i64 a0_3) := (blk_cell BK.out 3).trans rfl; have hcz4 : w3.cell? ⟨gb, 4, none⟩ = some (.slice A0_4 l0_4.length c0_4) := (blk_cell BK.out 4).trans rfl; have hcz5 : w3.cell? ⟨gb, 5, none⟩ = some (.int .i64 a0_5) := (blk_cell BK.out 5).trans rfl; have hcz6 : w3.cell? ⟨gb, 6, none⟩ = some (.bool a0_6) := (blk_cell BK.out 6).trans rfl; have hcz7 : w3.cell? ⟨gb, 7, none⟩ = some (.int .i64 a0_7) := (blk_cell BK.out 7).trans rfl; have hcz8 : w3.cell? ⟨gb, 8, none⟩ = some (.int .i64 a0_8) := (blk_cell BK.out 8).trans rfl; have hcz9 : w3.cell? ⟨gb, 9, none⟩ = some (.int .i64 a0_9) := (blk_cell BK.out 9).trans rfl; have hcz10 : w3.cell? ⟨gb, 10, none⟩ = some (.slice A0_10 l0_10.length c0_10) := (blk_cell BK.out 10).trans rfl) | ((with_reducible refine gate_callee (f := 59) rfl ?_); (try (refine gate_guard (by rfl) ?_; dsimp only)); refine goesL_ (some 12) rfl rfl Try.func59 (by kernel_rfl) rfl #[.slice A0_0 l0_0.length c0_0, .agg #[.int .i64 a0_1, .string a0_2]] rfl (by (try simp only [List.map_toArray, List.map_cons, List.map_nil]); first | done | rfl) ?_; (with_reducible refine (impl_rowed.calls k _ _ l0_0 a0_1 a0_2 true _ ?side1 hc0_0 h1.out).mono ?_); (case side1 => exact Kd.C_below hr0_0 HB.out); rintro e w4 ⟨rfl, hb⟩; refine ⟨_, rfl, ?_⟩; have HB4 := Aside0.mk (below_step HB.out hb); have BK4 := Aside0.mk (blk_below BK.out hb); clear hb HB BK; clear hcz0 hcz1 hcz2 hcz3 hcz4 hcz5 hcz6 hcz7 hcz8 hcz9 hcz10; have hcy0 : w4.cell? ⟨gb, 0, none⟩ = some (.slice A0_0 l0_0.length c0_0) := (blk_cell BK4.out 0).trans rfl; have hcy1 : w4.cell? ⟨gb, 1, none⟩ = some (.int .i64 a0_1) := (blk_cell BK4.out 1).trans rfl; have hcy2 : w4.cell? ⟨gb, 2, none⟩ = some (.string a0_2) := (blk_cell BK4.out 2).trans rfl; have hcy3 : w4.cell? ⟨gb, 3, none⟩ = some (.int .i64 a0_3) := (blk_cell BK4.out 3).trans rfl; have hcy4 : w4.cell? ⟨gb, 4, none⟩ = some (.slice A0_4 l0_4.length c0_4) := (blk_cell BK4.out 4).trans rfl; have hcy5 : w4.cell? ⟨gb, 5, none⟩ = some (.int .i64 a0_5) := (blk_cell BK4.out 5).trans rfl; have hcy6 : w4.cell? ⟨gb, 6, none⟩ = some (.bool a0_6) := (blk_cell BK4.out 6).trans rfl; have hcy7 : w4.cell? ⟨gb, 7, none⟩ = some (.int .i64 a0_7) := (blk_cell BK4.out 7).trans rfl; have hcy8 : w4.cell? ⟨gb, 8, none⟩ = some (.int .i64 a0_8) := (blk_cell BK4.out 8).trans rfl; have hcy9 : w4.cell? ⟨gb, 9, none⟩ = some (.int .i64 a0_9) := (blk_cell BK4.out 9).trans rfl; have hcy10 : w4.cell? ⟨gb, 10, none⟩ = some (.slice A0_10 l0_10.length c0_10) := (blk_cell BK4.out 10).trans rfl) | (go_at_call 64; (try simp only [i64_w, i32_w]); (with_reducible refine (impl_within.calls a0_3 0 40 true _ h2.out).mono ?_); rintro e w' ⟨rfl, ⟨nd, rfl⟩⟩) | (go_at_call 77; (try simp only [i64_w, i32_w]); refine (impl_placeOfBits.calls k _ _ l0_4 pv true _ ?_ hc0_4 h3.out).mono ?_; exact Kd.C_below hr0_4 (pw_below_drewN HB4.out _); rintro e w' ⟨rfl, ⟨nd, rfl⟩⟩) | (go_at_call 64; (try simp only [i64_w, i32_w]); (with_reducible refine (impl_within.calls a0_5 (-1) 1 false _ h4.out).mono ?_); rintro e w' ⟨rfl, ⟨nd, rfl⟩⟩))
   go_ret
   exact ⟨rfl, by repeat (first | (with_reducible first | exact HB4.out | exact HB.out | apply below_alloc | apply pw_below_drewN | apply below_drew1) | exact HB4.out | exact HB.out)⟩
set_option maxHeartbeats 80000000 in
set_option maxRecDepth 100000 in
theorem mok_7 (k : Nat) (A0_0 : Option Addr) (c0_0 : Nat) (l0_0 : List Bool) (a0_1 : Int) (a0_2 : ByteArray) (a0_3 : Int) (A0_4 : Option Addr) (c0_4 : Nat) (l0_4 : List Int) (a0_5 : Int) (a0_6 : Bool) (a0_7 : Int) (a0_8 : Int) (a0_9 : Int) (A0_10 : Option Addr) (c0_10 : Nat) (l0_10 : List (S86)) (w : World) (hr0_0 : Kd.C Kd.bool w A0_0 l0_0.length l0_0) (hc0_0 : l0_0.length ≤ c0_0) (hr0_4 : Kd.C (Kd.int .i64) w A0_4 l0_4.length l0_4) (hc0_4 : l0_4.length ≤ c0_4) (hr0_10 : Kd.C k86 w A0_10 l0_10.length l0_10) (hc0_10 : l0_10.length ≤ c0_10) (h1 : Aside0 (impl_rowed.f k l0_0 a0_1 a0_2 = some true)) (h2 : Aside0 (impl_within.f a0_3 0 40 = some true)) (gm : decide ((l0_10.length : Int) > a0_3) = false) (gv : decide ((l0_4.length : Int) > a0_1) = false) (pv : Int) (h3 : Aside0 (impl_placeOfBits.f k l0_4 = some (pv, true))) (h4 : Aside0 (impl_within.f a0_5 (-1) 1 = some true)) (g6 : a0_6 = true) (g5 : decide (a0_5 < 0) = true) :
  Calls Try.prog 32 #[.agg #[.slice A0_0 l0_0.length c0_0, .int .i64 a0_1, .string a0_2, .int .i64 a0_3, .slice A0_4 l0_4.length c0_4, .int .i64 a0_5, .bool a0_6, .int .i64 a0_7, .int .i64 a0_8, .int .i64 a0_9, .slice A0_10 l0_10.length c0_10]] w fun e w' => e = .returned (.bool false) ∧ Below w.heap.size w w' := by
   have gm1 : decide (a0_3 < (l0_10.length : Int)) = false := gm; have gv1 : decide (a0_1 < (l0_4.length : Int)) = false := gv
   subst g6
   go_enter Try.func32, Try.ntmps32
   go_wp2_with (first | ((with_reducible refine gate_dst (N := 1) rfl ?_); refine box_event ?hg (N := 1) ?hd (cs := #[.slice A0_0 l0_0.length c0_0, .int .i64 a0_1, .string a0_2, .int .i64 a0_3, .slice A0_4 l0_4.length c0_4, .int .i64 a0_5, .bool true, .int .i64 a0_7, .int .i64 a0_8, .int .i64 a0_9, .slice A0_10 l0_10.length c0_10]) (t := 36) ?hr ?_; (case hd => rfl); (case hg => rfl); (case hr => first | (go_simp; done) | (go_simp; rfl)); intro gb hg w3 hbox hb; have HB := Aside0.mk hb; have BK := Aside0.mk hbox; have GE := Aside0.mk (by rw [hg]; exact Nat.le_refl _ : w.heap.size ≤ gb); clear hb hbox hg; have hcz0 : w3.cell? ⟨gb, 0, none⟩ = some (.slice A0_0 l0_0.length c0_0) := (blk_cell BK.out 0).trans rfl; have hcz1 : w3.cell? ⟨gb, 1, none⟩ = some (.int .i64 a0_1) := (blk_cell BK.out 1).trans rfl; have hcz2 : w3.cell? ⟨gb, 2, none⟩ = some (.string a0_2) := (blk_cell BK.out 2).trans rfl; have hcz3 : w3.cell? ⟨gb, 3, none⟩ = some (.int .i64 a0_3) := (blk_cell BK.out 3).trans rfl; have hcz4 : w3.cell? ⟨gb, 4, none⟩ = some (.slice A0_4 l0_4.length c0_4) := (blk_cell BK.out 4).trans rfl; have hcz5 : w3.cell? ⟨gb, 5, none⟩ = some (.int .i64 a0_5) := (blk_cell BK.out 5).trans rfl; have hcz6 : w3.cell? ⟨gb, 6, none⟩ = some (.bool true) := (blk_cell BK.out 6).trans rfl; have hcz7 : w3.cell? ⟨gb, 7, none⟩ = some (.int .i64 a0_7) := (blk_cell BK.out 7).trans rfl; have hcz8 : w3.cell? ⟨gb, 8, none⟩ = some (.int .i64 a0_8) := (blk_cell BK.out 8).trans rfl; have hcz9 : w3.cell? ⟨gb, 9, none⟩ = some (.int .i64 a0_9) := (blk_cell BK.out 9).trans rfl; have hcz10 : w3.cell? ⟨gb, 10, none⟩ = some (.slice A0_10 l0_10.length c0_10) := (blk_cell BK.out 10).trans rfl) | ((with_reducible refine gate_callee (f := 59) rfl ?_); (try (refine gate_guard (by rfl) ?_; dsimp only)); refine goesL_ (some 12) rfl rfl Try.func59 (by kernel_rfl) rfl #[.slice A0_0 l0_0.length c0_0, .agg #[.int .i64 a0_1, .string a0_2]] rfl (by (try simp only [List.map_toArray, List.map_cons, List.map_nil]); first | done | rfl) ?_; (with_reducible refine (impl_rowed.calls k _ _ l0_0 a0_1 a0_2 true _ ?side1 hc0_0 h1.out).mono ?_); (case side1 => exact Kd.C_below hr0_0 HB.out); rintro e w4 ⟨rfl, hb⟩; refine ⟨_, rfl, ?_⟩; have HB4 := Aside0.mk (below_step HB.out hb); have BK4 := Aside0.mk (blk_below BK.out hb); clear hb HB BK; clear hcz0 hcz1 hcz2 hcz3 hcz4 hcz5 hcz6 hcz7 hcz8 hcz9 hcz10; have hcy0 : w4.cell? ⟨gb, 0, none⟩ = some (.slice A0_0 l0_0.length c0_0) := (blk_cell BK4.out 0).trans rfl; have hcy1 : w4.cell? ⟨gb, 1, none⟩ = some (.int .i64 a0_1) := (blk_cell BK4.out 1).trans rfl; have hcy2 : w4.cell? ⟨gb, 2, none⟩ = some (.string a0_2) := (blk_cell BK4.out 2).trans rfl; have hcy3 : w4.cell? ⟨gb, 3, none⟩ = some (.int .i64 a0_3) := (blk_cell BK4.out 3).trans rfl; have hcy4 : w4.cell? ⟨gb, 4, none⟩ = some (.slice A0_4 l0_4.length c0_4) := (blk_cell BK4.out 4).trans rfl; have hcy5 : w4.cell? ⟨gb, 5, none⟩ = some (.int .i64 a0_5) := (blk_cell BK4.out 5).trans rfl; have hcy6 : w4.cell? ⟨gb, 6, none⟩ = some (.bool true) := (blk_cell BK4.out 6).trans rfl; have hcy7 : w4.cell? ⟨gb, 7, none⟩ = some (.int .i64 a0_7) := (blk_cell BK4.out 7).trans rfl; have hcy8 : w4.cell? ⟨gb, 8, none⟩ = some (.int .i64 a0_8) := (blk_cell BK4.out 8).trans rfl; have hcy9 : w4.cell? ⟨gb, 9, none⟩ = some (.int .i64 a0_9) := (blk_cell BK4.out 9).trans rfl; have hcy10 : w4.cell? ⟨gb, 10, none⟩ = some (.slice A0_10 l0_10.length c0_10) := (blk_cell BK4.out 10).trans rfl) | (go_at_call 64; (try simp only [i64_w, i32_w]); (with_reducible refine (impl_within.calls a0_3 0 40 true _ h2.out).mono ?_); rintro e w' ⟨rfl, ⟨nd, rfl⟩⟩) | (go_at_call 77; (try simp only [i64_w, i32_w]); refine (impl_placeOfBits.calls k _ _ l0_4 pv true _ ?_ hc0_4 h3.out).mono ?_; exact Kd.C_below hr0_4 (pw_below_drewN HB4.out _); rintro e w' ⟨rfl, ⟨nd, rfl⟩⟩) | (go_at_call 64; (try simp only [i64_w, i32_w]); (with_reducible refine (impl_within.calls a0_5 (-1) 1 true _ h4.out).mono ?_); rintro e w' ⟨rfl, ⟨nd, rfl⟩⟩))
   go_ret
   exact ⟨rfl, by repeat (first | (with_reducible first | exact HB4.out | exact HB.out | apply below_alloc | apply pw_below_drewN | apply below_drew1) | exact HB4.out | exact HB.out)⟩
set_option maxHeartbeats 80000000 in
set_option maxRecDepth 100000 in
theorem mok_8 (k : Nat) (A0_0 : Option Addr) (c0_0 : Nat) (l0_0 : List Bool) (a0_1 : Int) (a0_2 : ByteArray) (a0_3 : Int) (A0_4 : Option Addr) (c0_4 : Nat) (l0_4 : List Int) (a0_5 : Int) (a0_6 : Bool) (a0_7 : Int) (a0_8 : Int) (a0_9 : Int) (A0_10 : Option Addr) (c0_10 : Nat) (l0_10 : List (S86)) (w : World) (hr0_0 : Kd.C Kd.bool w A0_0 l0_0.length l0_0) (hc0_0 : l0_0.length ≤ c0_0) (hr0_4 : Kd.C (Kd.int .i64) w A0_4 l0_4.length l0_4) (hc0_4 : l0_4.length ≤ c0_4) (hr0_10 : Kd.C k86 w A0_10 l0_10.length l0_10) (hc0_10 : l0_10.length ≤ c0_10) (h1 : Aside0 (impl_rowed.f k l0_0 a0_1 a0_2 = some true)) (h2 : Aside0 (impl_within.f a0_3 0 40 = some true)) (gm : decide ((l0_10.length : Int) > a0_3) = false) (gv : decide ((l0_4.length : Int) > a0_1) = false) (pv : Int) (h3 : Aside0 (impl_placeOfBits.f k l0_4 = some (pv, true))) (h4 : Aside0 (impl_within.f a0_5 (-1) 1 = some true)) (g6 : a0_6 = true) (g5 : decide (a0_5 < 0) = false) (gz : decide ((l0_4.length : Int) > 0) = true) :
  Calls Try.prog 32 #[.agg #[.slice A0_0 l0_0.length c0_0, .int .i64 a0_1, .string a0_2, .int .i64 a0_3, .slice A0_4 l0_4.length c0_4, .int .i64 a0_5, .bool a0_6, .int .i64 a0_7, .int .i64 a0_8, .int .i64 a0_9, .slice A0_10 l0_10.length c0_10]] w fun e w' => e = .returned (.bool false) ∧ Below w.heap.size w w' := by
   have gm1 : decide (a0_3 < (l0_10.length : Int)) = false := gm; have gv1 : decide (a0_1 < (l0_4.length : Int)) = false := gv; have gz1 : decide (0 < (l0_4.length : Int)) = true := gz
   have gz2 : decide (0 < l0_4.length) = true := by rw [← gz1]; exact decide_eq_decide.2 (by omega)
   subst g6
   go_enter Try.func32, Try.ntmps32
   go_wp2_with (first | ((with_reducible refine gate_dst (N := 1) rfl ?_); refine box_event ?hg (N := 1) ?hd (cs := #[.slice A0_0 l0_0.length c0_0, .int .i64 a0_1, .string a0_2, .int .i64 a0_3, .slice A0_4 l0_4.length c0_4, .int .i64 a0_5, .bool true, .int .i64 a0_7, .int .i64 a0_8, .int .i64 a0_9, .slice A0_10 l0_10.length c0_10]) (t := 36) ?hr ?_; (case hd => rfl); (case hg => rfl); (case hr => first | (go_simp; done) | (go_simp; rfl)); intro gb hg w3 hbox hb; have HB := Aside0.mk hb; have BK := Aside0.mk hbox; have GE := Aside0.mk (by rw [hg]; exact Nat.le_refl _ : w.heap.size ≤ gb); clear hb hbox hg; have hcz0 : w3.cell? ⟨gb, 0, none⟩ = some (.slice A0_0 l0_0.length c0_0) := (blk_cell BK.out 0).trans rfl; have hcz1 : w3.cell? ⟨gb, 1, none⟩ = some (.int .i64 a0_1) := (blk_cell BK.out 1).trans rfl; have hcz2 : w3.cell? ⟨gb, 2, none⟩ = some (.string a0_2) := (blk_cell BK.out 2).trans rfl; have hcz3 : w3.cell? ⟨gb, 3, none⟩ = some (.int .i64 a0_3) := (blk_cell BK.out 3).trans rfl; have hcz4 : w3.cell? ⟨gb, 4, none⟩ = some (.slice A0_4 l0_4.length c0_4) := (blk_cell BK.out 4).trans rfl; have hcz5 : w3.cell? ⟨gb, 5, none⟩ = some (.int .i64 a0_5) := (blk_cell BK.out 5).trans rfl; have hcz6 : w3.cell? ⟨gb, 6, none⟩ = some (.bool true) := (blk_cell BK.out 6).trans rfl; have hcz7 : w3.cell? ⟨gb, 7, none⟩ = some (.int .i64 a0_7) := (blk_cell BK.out 7).trans rfl; have hcz8 : w3.cell? ⟨gb, 8, none⟩ = some (.int .i64 a0_8) := (blk_cell BK.out 8).trans rfl; have hcz9 : w3.cell? ⟨gb, 9, none⟩ = some (.int .i64 a0_9) := (blk_cell BK.out 9).trans rfl; have hcz10 : w3.cell? ⟨gb, 10, none⟩ = some (.slice A0_10 l0_10.length c0_10) := (blk_cell BK.out 10).trans rfl) | ((with_reducible refine gate_callee (f := 59) rfl ?_); (try (refine gate_guard (by rfl) ?_; dsimp only)); refine goesL_ (some 12) rfl rfl Try.func59 (by kernel_rfl) rfl #[.slice A0_0 l0_0.length c0_0, .agg #[.int .i64 a0_1, .string a0_2]] rfl (by (try simp only [List.map_toArray, List.map_cons, List.map_nil]); first | done | rfl) ?_; (with_reducible refine (impl_rowed.calls k _ _ l0_0 a0_1 a0_2 true _ ?side1 hc0_0 h1.out).mono ?_); (case side1 => exact Kd.C_below hr0_0 HB.out); rintro e w4 ⟨rfl, hb⟩; refine ⟨_, rfl, ?_⟩; have HB4 := Aside0.mk (below_step HB.out hb); have BK4 := Aside0.mk (blk_below BK.out hb); clear hb HB BK; clear hcz0 hcz1 hcz2 hcz3 hcz4 hcz5 hcz6 hcz7 hcz8 hcz9 hcz10; have hcy0 : w4.cell? ⟨gb, 0, none⟩ = some (.slice A0_0 l0_0.length c0_0) := (blk_cell BK4.out 0).trans rfl; have hcy1 : w4.cell? ⟨gb, 1, none⟩ = some (.int .i64 a0_1) := (blk_cell BK4.out 1).trans rfl; have hcy2 : w4.cell? ⟨gb, 2, none⟩ = some (.string a0_2) := (blk_cell BK4.out 2).trans rfl; have hcy3 : w4.cell? ⟨gb, 3, none⟩ = some (.int .i64 a0_3) := (blk_cell BK4.out 3).trans rfl; have hcy4 : w4.cell? ⟨gb, 4, none⟩ = some (.slice A0_4 l0_4.length c0_4) := (blk_cell BK4.out 4).trans rfl; have hcy5 : w4.cell? ⟨gb, 5, none⟩ = some (.int .i64 a0_5) := (blk_cell BK4.out 5).trans rfl; have hcy6 : w4.cell? ⟨gb, 6, none⟩ = some (.bool true) := (blk_cell BK4.out 6).trans rfl; have hcy7 : w4.cell? ⟨gb, 7, none⟩ = some (.int .i64 a0_7) := (blk_cell BK4.out 7).trans rfl; have hcy8 : w4.cell? ⟨gb, 8, none⟩ = some (.int .i64 a0_8) := (blk_cell BK4.out 8).trans rfl; have hcy9 : w4.cell? ⟨gb, 9, none⟩ = some (.int .i64 a0_9) := (blk_cell BK4.out 9).trans rfl; have hcy10 : w4.cell? ⟨gb, 10, none⟩ = some (.slice A0_10 l0_10.length c0_10) := (blk_cell BK4.out 10).trans rfl) | (go_at_call 64; (try simp only [i64_w, i32_w]); (with_reducible refine (impl_within.calls a0_3 0 40 true _ h2.out).mono ?_); rintro e w' ⟨rfl, ⟨nd, rfl⟩⟩) | (go_at_call 77; (try simp only [i64_w, i32_w]); refine (impl_placeOfBits.calls k _ _ l0_4 pv true _ ?_ hc0_4 h3.out).mono ?_; exact Kd.C_below hr0_4 (pw_below_drewN HB4.out _); rintro e w' ⟨rfl, ⟨nd, rfl⟩⟩) | (go_at_call 64; (try simp only [i64_w, i32_w]); (with_reducible refine (impl_within.calls a0_5 (-1) 1 true _ h4.out).mono ?_); rintro e w' ⟨rfl, ⟨nd, rfl⟩⟩))
   go_ret
   exact ⟨rfl, by repeat (first | (with_reducible first | exact HB4.out | exact HB.out | apply below_alloc | apply pw_below_drewN | apply below_drew1) | exact HB4.out | exact HB.out)⟩
set_option maxHeartbeats 80000000 in
set_option maxRecDepth 100000 in
theorem mok_9 (k : Nat) (r : Bool) (A0_0 : Option Addr) (c0_0 : Nat) (l0_0 : List Bool) (a0_1 : Int) (a0_2 : ByteArray) (a0_3 : Int) (A0_4 : Option Addr) (c0_4 : Nat) (l0_4 : List Int) (a0_5 : Int) (a0_6 : Bool) (a0_7 : Int) (a0_8 : Int) (a0_9 : Int) (A0_10 : Option Addr) (c0_10 : Nat) (l0_10 : List (S86)) (w : World) (hr0_0 : Kd.C Kd.bool w A0_0 l0_0.length l0_0) (hc0_0 : l0_0.length ≤ c0_0) (hr0_4 : Kd.C (Kd.int .i64) w A0_4 l0_4.length l0_4) (hc0_4 : l0_4.length ≤ c0_4) (hr0_10 : Kd.C k86 w A0_10 l0_10.length l0_10) (hc0_10 : l0_10.length ≤ c0_10) (hz : ∀ s ∈ l0_10, s.f0.size ≤ maxLen) (hr : r = (decide (okMemo l0_10) && okCounts a0_7 a0_8 a0_9)) (h1 : Aside0 (impl_rowed.f k l0_0 a0_1 a0_2 = some true)) (h2 : Aside0 (impl_within.f a0_3 0 40 = some true)) (gm : decide ((l0_10.length : Int) > a0_3) = false) (gv : decide ((l0_4.length : Int) > a0_1) = false) (pv : Int) (h3 : Aside0 (impl_placeOfBits.f k l0_4 = some (pv, true))) (h4 : Aside0 (impl_within.f a0_5 (-1) 1 = some true)) (g6 : a0_6 = false) :
  Calls Try.prog 32 #[.agg #[.slice A0_0 l0_0.length c0_0, .int .i64 a0_1, .string a0_2, .int .i64 a0_3, .slice A0_4 l0_4.length c0_4, .int .i64 a0_5, .bool a0_6, .int .i64 a0_7, .int .i64 a0_8, .int .i64 a0_9, .slice A0_10 l0_10.length c0_10]] w fun e w' => e = .returned (.bool r) ∧ Below w.heap.size w w' := by
 have gm1 : decide (a0_3 < (l0_10.length : Int)) = false := gm; have gv1 : decide (a0_1 < (l0_4.length : Int)) = false := gv
 subst g6
 have HZ := Aside0.mk hz; have HR := Aside0.mk hr0_10
 replace hr := Aside0.mk hr
 clear hz hr0_10
 go_enter Try.func32, Try.ntmps32
 go_wp2_with (first | ((with_reducible refine gate_dst (N := 1) rfl ?_); refine box_event ?hg (N := 1) ?hd (cs := #[.slice A0_0 l0_0.length c0_0, .int .i64 a0_1, .string a0_2, .int .i64 a0_3, .slice A0_4 l0_4.length c0_4, .int .i64 a0_5, .bool false, .int .i64 a0_7, .int .i64 a0_8, .int .i64 a0_9, .slice A0_10 l0_10.length c0_10]) (t := 36) ?hr ?_; (case hd => rfl); (case hg => rfl); (case hr => first | (go_simp; done) | (go_simp; rfl)); intro gb hg w3 hbox hb; have HB := Aside0.mk hb; have BK := Aside0.mk hbox; have GE := Aside0.mk (by rw [hg]; exact Nat.le_refl _ : w.heap.size ≤ gb); clear hb hbox hg; have hcz0 : w3.cell? ⟨gb, 0, none⟩ = some (.slice A0_0 l0_0.length c0_0) := (blk_cell BK.out 0).trans rfl; have hcz1 : w3.cell? ⟨gb, 1, none⟩ = some (.int .i64 a0_1) := (blk_cell BK.out 1).trans rfl; have hcz2 : w3.cell? ⟨gb, 2, none⟩ = some (.string a0_2) := (blk_cell BK.out 2).trans rfl; have hcz3 : w3.cell? ⟨gb, 3, none⟩ = some (.int .i64 a0_3) := (blk_cell BK.out 3).trans rfl; have hcz4 : w3.cell? ⟨gb, 4, none⟩ = some (.slice A0_4 l0_4.length c0_4) := (blk_cell BK.out 4).trans rfl; have hcz5 : w3.cell? ⟨gb, 5, none⟩ = some (.int .i64 a0_5) := (blk_cell BK.out 5).trans rfl; have hcz6 : w3.cell? ⟨gb, 6, none⟩ = some (.bool false) := (blk_cell BK.out 6).trans rfl; have hcz7 : w3.cell? ⟨gb, 7, none⟩ = some (.int .i64 a0_7) := (blk_cell BK.out 7).trans rfl; have hcz8 : w3.cell? ⟨gb, 8, none⟩ = some (.int .i64 a0_8) := (blk_cell BK.out 8).trans rfl; have hcz9 : w3.cell? ⟨gb, 9, none⟩ = some (.int .i64 a0_9) := (blk_cell BK.out 9).trans rfl; have hcz10 : w3.cell? ⟨gb, 10, none⟩ = some (.slice A0_10 l0_10.length c0_10) := (blk_cell BK.out 10).trans rfl) | ((with_reducible refine gate_callee (f := 59) rfl ?_); (try (refine gate_guard (by rfl) ?_; dsimp only)); refine goesL_ (some 12) rfl rfl Try.func59 (by kernel_rfl) rfl #[.slice A0_0 l0_0.length c0_0, .agg #[.int .i64 a0_1, .string a0_2]] rfl (by (try simp only [List.map_toArray, List.map_cons, List.map_nil]); first | done | rfl) ?_; (with_reducible refine (impl_rowed.calls k _ _ l0_0 a0_1 a0_2 true _ ?side1 hc0_0 h1.out).mono ?_); (case side1 => exact Kd.C_below hr0_0 HB.out); rintro e w4 ⟨rfl, hb⟩; refine ⟨_, rfl, ?_⟩; have HB4 := Aside0.mk (below_step HB.out hb); have BK4 := Aside0.mk (blk_below BK.out hb); clear hb HB BK; clear hcz0 hcz1 hcz2 hcz3 hcz4 hcz5 hcz6 hcz7 hcz8 hcz9 hcz10; have hcy0 : w4.cell? ⟨gb, 0, none⟩ = some (.slice A0_0 l0_0.length c0_0) := (blk_cell BK4.out 0).trans rfl; have hcy1 : w4.cell? ⟨gb, 1, none⟩ = some (.int .i64 a0_1) := (blk_cell BK4.out 1).trans rfl; have hcy2 : w4.cell? ⟨gb, 2, none⟩ = some (.string a0_2) := (blk_cell BK4.out 2).trans rfl; have hcy3 : w4.cell? ⟨gb, 3, none⟩ = some (.int .i64 a0_3) := (blk_cell BK4.out 3).trans rfl; have hcy4 : w4.cell? ⟨gb, 4, none⟩ = some (.slice A0_4 l0_4.length c0_4) := (blk_cell BK4.out 4).trans rfl; have hcy5 : w4.cell? ⟨gb, 5, none⟩ = some (.int .i64 a0_5) := (blk_cell BK4.out 5).trans rfl; have hcy6 : w4.cell? ⟨gb, 6, none⟩ = some (.bool false) := (blk_cell BK4.out 6).trans rfl; have hcy7 : w4.cell? ⟨gb, 7, none⟩ = some (.int .i64 a0_7) := (blk_cell BK4.out 7).trans rfl; have hcy8 : w4.cell? ⟨gb, 8, none⟩ = some (.int .i64 a0_8) := (blk_cell BK4.out 8).trans rfl; have hcy9 : w4.cell? ⟨gb, 9, none⟩ = some (.int .i64 a0_9) := (blk_cell BK4.out 9).trans rfl; have hcy10 : w4.cell? ⟨gb, 10, none⟩ = some (.slice A0_10 l0_10.length c0_10) := (blk_cell BK4.out 10).trans rfl) | (go_at_call 64; (try simp only [i64_w, i32_w]); (with_reducible refine (impl_within.calls a0_3 0 40 true _ h2.out).mono ?_); rintro e w' ⟨rfl, ⟨nd, rfl⟩⟩) | (go_at_call 77; (try simp only [i64_w, i32_w]); refine (impl_placeOfBits.calls k _ _ l0_4 pv true _ ?_ hc0_4 h3.out).mono ?_; exact Kd.C_below hr0_4 (pw_below_drewN HB4.out _); rintro e w' ⟨rfl, ⟨nd, rfl⟩⟩) | (go_at_call 64; (try simp only [i64_w, i32_w]); (with_reducible refine (impl_within.calls a0_5 (-1) 1 true _ h4.out).mono ?_); rintro e w' ⟨rfl, ⟨nd, rfl⟩⟩) | ((with_reducible refine gate_dst (N := 66) rfl ?_); refine wpList_mkmap (κ := ByteArray) (P := Try.prog) (t := 90) ?_ ?_ 9 3 Value.string (fun s => s.size ≤ maxLen) ?_; rfl; rfl; intro mb w5 hmb HM0 hb5; have HM := Aside0.mk HM0; have HB5 := Aside0.mk (below_step (pw_below_drewN HB4.out _) hb5); have BK5 := Aside0.mk (blk_below (blk_drewN BK4.out _) hb5); have MG := Aside0.mk (by rw [hmb]; exact (pw_below_drewN HB4.out _).size : w.heap.size ≤ mb); clear HM0 hb5 hmb HB4 BK4; clear hcy0 hcy1 hcy2 hcy3 hcy4 hcy5 hcy6 hcy7 hcy8 hcy9 hcy10; have hcx0 : w5.cell? ⟨gb, 0, none⟩ = some (.slice A0_0 l0_0.length c0_0) := (blk_cell BK5.out 0).trans rfl; have hcx1 : w5.cell? ⟨gb, 1, none⟩ = some (.int .i64 a0_1) := (blk_cell BK5.out 1).trans rfl; have hcx2 : w5.cell? ⟨gb, 2, none⟩ = some (.string a0_2) := (blk_cell BK5.out 2).trans rfl; have hcx3 : w5.cell? ⟨gb, 3, none⟩ = some (.int .i64 a0_3) := (blk_cell BK5.out 3).trans rfl; have hcx4 : w5.cell? ⟨gb, 4, none⟩ = some (.slice A0_4 l0_4.length c0_4) := (blk_cell BK5.out 4).trans rfl; have hcx5 : w5.cell? ⟨gb, 5, none⟩ = some (.int .i64 a0_5) := (blk_cell BK5.out 5).trans rfl; have hcx6 : w5.cell? ⟨gb, 6, none⟩ = some (.bool false) := (blk_cell BK5.out 6).trans rfl; have hcx7 : w5.cell? ⟨gb, 7, none⟩ = some (.int .i64 a0_7) := (blk_cell BK5.out 7).trans rfl; have hcx8 : w5.cell? ⟨gb, 8, none⟩ = some (.int .i64 a0_8) := (blk_cell BK5.out 8).trans rfl; have hcx9 : w5.cell? ⟨gb, 9, none⟩ = some (.int .i64 a0_9) := (blk_cell BK5.out 9).trans rfl; have hcx10 : w5.cell? ⟨gb, 10, none⟩ = some (.slice A0_10 l0_10.length c0_10) := (blk_cell BK5.out 10).trans rfl))
 clear hcx0 hcx1 hcx2 hcx3 hcx4 hcx5 hcx6 hcx7 hcx8 hcx9 hcx10
 go_loopg [70] l0_10.length (fun kq v70 wr => ∃ i : Nat, v70 = .int .i64 i ∧ Aside0 (i ≤ l0_10.length ∧ kq = l0_10.length - i) ∧ Aside0 (∀ j, j < i → okSeen l0_10 j) ∧ Aside0 (IsMp Try.prog 9 3 Value.string (fun s => s.size ≤ maxLen) wr mb (seenMap l0_10 i)) ∧ Aside0 (wr.heap[gb]? = some (.cells #[.slice A0_0 l0_0.length c0_0, .int .i64 a0_1, .string a0_2, .int .i64 a0_3, .slice A0_4 l0_4.length c0_4, .int .i64 a0_5, .bool false, .int .i64 a0_7, .int .i64 a0_8, .int .i64 a0_9, .slice A0_10 l0_10.length c0_10] 36 (0, 0))) ∧ Aside0 (Below w.heap.size w wr))
 case atStart => exact ⟨0, rfl, ⟨by omega, by omega⟩, ⟨fun j hj => by omega⟩, HM, BK5, HB5⟩
 case round =>
  clear HM BK5 HB5
  obtain ⟨i, rfl, hi, hall, HM, BK, HB⟩ := hrel
  by_cases hlt : i < l0_10.length
  ·have hd0 : decide (i < l0_10.length) = true := decide_eq_true hlt
   have hd1 : decide ((i : Int) < (l0_10.length : Int)) = true := decide_eq_true (by omega)
   have hmx := (Kd.C_max HR.out)
   obtain ⟨ad, e_, hx0, hx1⟩ := at_T86 HR.out (i : Int) (by omega) (by omega)
   cases e_
   replace hx0 := (HB.out.cell (World.block_lt_of_cell? w _ hx0)).trans hx0
   replace hx1 := (HB.out.cell (World.block_lt_of_cell? w _ hx1)).trans hx1
   rw [Int.toNat_natCast] at hx0 hx1
   have hw4 : wrap64 ((i : Int) + 1) = (i : Int) + 1 := by have := hmx; unfold wrap64; omega
   have hwf : Aside0 ((rd_T86 l0_10 i).f0.size ≤ maxLen) := ⟨HZ.out _ (by rw [show rd_T86 l0_10 i = l0_10[i] from by simp [rd_T86, List.getD_eq_getElem?_getD, List.getElem?_eq_getElem hlt]]; exact List.getElem_mem hlt)⟩
   have hml : Aside0 ((seenMap l0_10 i).length < maxLen) := ⟨by have := hmx; simp [seenMap]; unfold maxLen; omega⟩
   clear hmx
   by_cases c0 : (rd_T86 l0_10 i).f1 = 0 ∨ (rd_T86 l0_10 i).f1 = 1
   ·by_cases c5 : (rd_T86 l0_10 i).f0 ∈ ((l0_10.take i).map (fun s => s.f0) : List ByteArray)
    ·have d5 : mget (seenMap l0_10 i) (rd_T86 l0_10 i).f0 = 1 := by rw [mget_seen, if_pos c5]
     have c5 := Aside0.mk c5
     rcases c0 with c0 | c0
     ·have d0 : ((rd_T86 l0_10 i).f1 != 0) = false := by rw [c0]; rfl
      clear c0
      go_wp2_with (first | (at_lookup; (try (refine gate_guard (by rfl) ?_; dsimp only)); refine wpList_mget (κ := ByteArray) (P := Try.prog) (t := 90) (k := 9) (e := 3) (m := seenMap l0_10 i) rfl _ _ rfl strCodec Try.underlying90 Try.underlying3 zeroInt (HM.out.alloc _) rfl (rd_T86 l0_10 i).f0 rfl hwf.out ?_))
      go_ret
      have hr0 : r = false := by rw [hr.out, decide_eq_false (fun h : okMemo l0_10 => (h i hlt).2 c5.out)]; rfl
      rw [hr0]
      exact ⟨rfl, below_alloc HB.out _⟩
     ·have d0 : ((rd_T86 l0_10 i).f1 != 0) = true := by rw [c0]; rfl
      have d1 : ((rd_T86 l0_10 i).f1 != 1) = false := by rw [c0]; rfl
      clear c0
      go_wp2_with (first | (at_lookup; (try (refine gate_guard (by rfl) ?_; dsimp only)); refine wpList_mget (κ := ByteArray) (P := Try.prog) (t := 90) (k := 9) (e := 3) (m := seenMap l0_10 i) rfl _ _ rfl strCodec Try.underlying90 Try.underlying3 zeroInt (HM.out.alloc _) rfl (rd_T86 l0_10 i).f0 rfl hwf.out ?_))
      go_ret
      have hr0 : r = false := by rw [hr.out, decide_eq_false (fun h : okMemo l0_10 => (h i hlt).2 c5.out)]; rfl
      rw [hr0]
      exact ⟨rfl, below_alloc HB.out _⟩
    ·have d5 : mget (seenMap l0_10 i) (rd_T86 l0_10 i).f0 = 0 := by rw [mget_seen, if_neg c5]
     have hok := Aside0.mk (⟨c0, c5⟩ : okSeen l0_10 i); clear c5
     rcases c0 with c0 | c0
     ·have d0 : ((rd_T86 l0_10 i).f1 != 0) = false := by rw [c0]; rfl
      clear c0
      go_wp2_with (first | (at_lookup; (try (refine gate_guard (by rfl) ?_; dsimp only)); refine wpList_mget (κ := ByteArray) (P := Try.prog) (t := 90) (k := 9) (e := 3) (m := seenMap l0_10 i) rfl _ _ rfl strCodec Try.underlying90 Try.underlying3 zeroInt (HM.out.alloc _) rfl (rd_T86 l0_10 i).f0 rfl hwf.out ?_) | (at_mapUpdate; refine wpList_mput (κ := ByteArray) (P := Try.prog) (t := 90) (k := 9) (e := 3) (m := seenMap l0_10 i) rfl _ _ _ rfl strCodec Try.underlying90 Try.underlying3 (HM.out.alloc _) rfl (rd_T86 l0_10 i).f0 rfl hwf.out 1 rfl (by decide) hml.out ?_; intro w1 hm1 hg1))
      go_roundg (l0_10.length - (i + 1))
      case measure => have := hi.out; omega
      case rel => exact ⟨i + 1, (by first | rfl | (rw [hw4]; rfl)), ⟨by have := hi.out; omega, rfl⟩, ⟨fun j hj => by rcases Nat.lt_succ_iff_lt_or_eq.1 hj with h | rfl; exact hall.out j h; exact hok.out⟩, ⟨by rw [seenMap_succ _ _ hlt]; exact hm1⟩, ⟨blk_grown (blk_alloc BK.out _) hg1 (by intro h_; injection h_ with h_; exact (HM.out.ne BK.out) h_.symm)⟩, ⟨pw_below_grown (below_alloc HB.out _) (some mb) (below_alloc HB.out _).size hg1 (fun k_ hk_ => by injection hk_ with hk_; subst hk_; exact MG.out)⟩⟩
     ·have d0 : ((rd_T86 l0_10 i).f1 != 0) = true := by rw [c0]; rfl
      have d1 : ((rd_T86 l0_10 i).f1 != 1) = false := by rw [c0]; rfl
      clear c0
      go_wp2_with (first | (at_lookup; (try (refine gate_guard (by rfl) ?_; dsimp only)); refine wpList_mget (κ := ByteArray) (P := Try.prog) (t := 90) (k := 9) (e := 3) (m := seenMap l0_10 i) rfl _ _ rfl strCodec Try.underlying90 Try.underlying3 zeroInt (HM.out.alloc _) rfl (rd_T86 l0_10 i).f0 rfl hwf.out ?_) | (at_mapUpdate; refine wpList_mput (κ := ByteArray) (P := Try.prog) (t := 90) (k := 9) (e := 3) (m := seenMap l0_10 i) rfl _ _ _ rfl strCodec Try.underlying90 Try.underlying3 (HM.out.alloc _) rfl (rd_T86 l0_10 i).f0 rfl hwf.out 1 rfl (by decide) hml.out ?_; intro w1 hm1 hg1))
      go_roundg (l0_10.length - (i + 1))
      case measure => have := hi.out; omega
      case rel => exact ⟨i + 1, (by first | rfl | (rw [hw4]; rfl)), ⟨by have := hi.out; omega, rfl⟩, ⟨fun j hj => by rcases Nat.lt_succ_iff_lt_or_eq.1 hj with h | rfl; exact hall.out j h; exact hok.out⟩, ⟨by rw [seenMap_succ _ _ hlt]; exact hm1⟩, ⟨blk_grown (blk_alloc BK.out _) hg1 (by intro h_; injection h_ with h_; exact (HM.out.ne BK.out) h_.symm)⟩, ⟨pw_below_grown (below_alloc HB.out _) (some mb) (below_alloc HB.out _).size hg1 (fun k_ hk_ => by injection hk_ with hk_; subst hk_; exact MG.out)⟩⟩
   ·have d0 : ((rd_T86 l0_10 i).f1 != 0) = true := bne_iff_ne.2 (fun h => c0 (.inl h))
    have d1 : ((rd_T86 l0_10 i).f1 != 1) = true := bne_iff_ne.2 (fun h => c0 (.inr h))
    have c0 := Aside0.mk c0
    go_wp2
    go_ret
    have hr0 : r = false := by rw [hr.out, decide_eq_false (fun h : okMemo l0_10 => c0.out (h i hlt).1)]; rfl
    rw [hr0]
    exact ⟨rfl, below_alloc HB.out _⟩
  ·have hd0 : decide (i < l0_10.length) = false := decide_eq_false hlt
   have hd1 : decide ((i : Int) < (l0_10.length : Int)) = false := decide_eq_false (by omega)
   have hM := Aside0.mk (fun j hj => hall.out j (by omega) : okMemo l0_10)
   have hcz6 : wr.cell? ⟨gb, 7, none⟩ = some (.int .i64 a0_7) := (blk_cell BK.out 7).trans rfl; have hcz7 : wr.cell? ⟨gb, 8, none⟩ = some (.int .i64 a0_8) := (blk_cell BK.out 8).trans rfl; have hcz8 : wr.cell? ⟨gb, 9, none⟩ = some (.int .i64 a0_9) := (blk_cell BK.out 9).trans rfl
   obtain ⟨b7, e7⟩ : ∃ b, b = decide (0 ≤ a0_7 ∧ a0_7 ≤ 1000000000) := ⟨_, rfl⟩
   have h7 := Aside0.mk ((isCount_eq a0_7).trans (by rw [← e7]) : impl_isCount.f a0_7 = some b7)
   cases b7 with
      | false =>
    replace e7 := Aside0.mk e7
    go_wp2_with (first | (go_at_call 78; (try simp only [i64_w, i32_w]); (with_reducible refine (impl_isCount.calls a0_7 false _ h7.out).mono ?_); rintro e w' ⟨rfl, ⟨nd, rfl⟩⟩))
    go_ret
    have hr0 : r = false := by rw [hr.out, (decide_eq_true hM.out : decide (okMemo l0_10) = true)]; simp [okCounts, ← e7.out]
    rw [hr0]
    exact ⟨rfl, by repeat (first | (with_reducible first | exact HB.out | apply pw_below_drewN) | exact HB.out)⟩
      | true =>
    replace e7 := Aside0.mk e7
    obtain ⟨b8, e8⟩ : ∃ b, b = decide (0 ≤ a0_8 ∧ a0_8 ≤ 1000000000) := ⟨_, rfl⟩
    have h8 := Aside0.mk ((isCount_eq a0_8).trans (by rw [← e8]) : impl_isCount.f a0_8 = some b8)
    cases b8 with
        | false =>
     replace e8 := Aside0.mk e8
     go_wp2_with (first | (go_at_call 78; (try simp only [i64_w, i32_w]); (with_reducible refine (impl_isCount.calls a0_7 true _ h7.out).mono ?_); rintro e w' ⟨rfl, ⟨nd, rfl⟩⟩) | (go_at_call 78; (try simp only [i64_w, i32_w]); (with_reducible refine (impl_isCount.calls a0_8 false _ h8.out).mono ?_); rintro e w' ⟨rfl, ⟨nd, rfl⟩⟩))
     go_ret
     have hr0 : r = false := by rw [hr.out, (decide_eq_true hM.out : decide (okMemo l0_10) = true)]; simp [okCounts, ← e7.out, ← e8.out]
     rw [hr0]
     exact ⟨rfl, by repeat (first | (with_reducible first | exact HB.out | apply pw_below_drewN) | exact HB.out)⟩
        | true =>
     replace e8 := Aside0.mk e8
     obtain ⟨b9, e9⟩ : ∃ b, b = decide (0 ≤ a0_9 ∧ a0_9 ≤ 1000000000) := ⟨_, rfl⟩
     have h9 := Aside0.mk ((isCount_eq a0_9).trans (by rw [← e9]) : impl_isCount.f a0_9 = some b9)
     cases b9 with
          | false =>
      replace e9 := Aside0.mk e9
      go_wp2_with (first | (go_at_call 78; (try simp only [i64_w, i32_w]); (with_reducible refine (impl_isCount.calls a0_7 true _ h7.out).mono ?_); rintro e w' ⟨rfl, ⟨nd, rfl⟩⟩) | (go_at_call 78; (try simp only [i64_w, i32_w]); (with_reducible refine (impl_isCount.calls a0_8 true _ h8.out).mono ?_); rintro e w' ⟨rfl, ⟨nd, rfl⟩⟩) | (go_at_call 78; (try simp only [i64_w, i32_w]); (with_reducible refine (impl_isCount.calls a0_9 false _ h9.out).mono ?_); rintro e w' ⟨rfl, ⟨nd, rfl⟩⟩))
      go_ret
      have hr0 : r = false := by rw [hr.out, (decide_eq_true hM.out : decide (okMemo l0_10) = true)]; simp [okCounts, ← e7.out, ← e8.out, ← e9.out]
      rw [hr0]
      exact ⟨rfl, by repeat (first | (with_reducible first | exact HB.out | apply pw_below_drewN) | exact HB.out)⟩
          | true =>
      replace e9 := Aside0.mk e9
      go_wp2_with (first | (go_at_call 78; (try simp only [i64_w, i32_w]); (with_reducible refine (impl_isCount.calls a0_7 true _ h7.out).mono ?_); rintro e w' ⟨rfl, ⟨nd, rfl⟩⟩) | (go_at_call 78; (try simp only [i64_w, i32_w]); (with_reducible refine (impl_isCount.calls a0_8 true _ h8.out).mono ?_); rintro e w' ⟨rfl, ⟨nd, rfl⟩⟩) | (go_at_call 78; (try simp only [i64_w, i32_w]); (with_reducible refine (impl_isCount.calls a0_9 true _ h9.out).mono ?_); rintro e w' ⟨rfl, ⟨nd, rfl⟩⟩))
      go_ret
      have hr0 : r = true := by rw [hr.out, (decide_eq_true hM.out : decide (okMemo l0_10) = true)]; simp [okCounts, ← e7.out, ← e8.out, ← e9.out]
      rw [hr0]
      exact ⟨rfl, by repeat (first | (with_reducible first | exact HB.out | apply pw_below_drewN) | exact HB.out)⟩
set_option maxHeartbeats 80000000 in
set_option maxRecDepth 100000 in
theorem mok_10 (k : Nat) (r : Bool) (A0_0 : Option Addr) (c0_0 : Nat) (l0_0 : List Bool) (a0_1 : Int) (a0_2 : ByteArray) (a0_3 : Int) (A0_4 : Option Addr) (c0_4 : Nat) (l0_4 : List Int) (a0_5 : Int) (a0_6 : Bool) (a0_7 : Int) (a0_8 : Int) (a0_9 : Int) (A0_10 : Option Addr) (c0_10 : Nat) (l0_10 : List (S86)) (w : World) (hr0_0 : Kd.C Kd.bool w A0_0 l0_0.length l0_0) (hc0_0 : l0_0.length ≤ c0_0) (hr0_4 : Kd.C (Kd.int .i64) w A0_4 l0_4.length l0_4) (hc0_4 : l0_4.length ≤ c0_4) (hr0_10 : Kd.C k86 w A0_10 l0_10.length l0_10) (hc0_10 : l0_10.length ≤ c0_10) (hz : ∀ s ∈ l0_10, s.f0.size ≤ maxLen) (hr : r = (decide (okMemo l0_10) && okCounts a0_7 a0_8 a0_9)) (h1 : Aside0 (impl_rowed.f k l0_0 a0_1 a0_2 = some true)) (h2 : Aside0 (impl_within.f a0_3 0 40 = some true)) (gm : decide ((l0_10.length : Int) > a0_3) = false) (gv : decide ((l0_4.length : Int) > a0_1) = false) (pv : Int) (h3 : Aside0 (impl_placeOfBits.f k l0_4 = some (pv, true))) (h4 : Aside0 (impl_within.f a0_5 (-1) 1 = some true)) (g6 : a0_6 = true) (g5 : decide (a0_5 < 0) = false) (gz : decide ((l0_4.length : Int) > 0) = false) :
  Calls Try.prog 32 #[.agg #[.slice A0_0 l0_0.length c0_0, .int .i64 a0_1, .string a0_2, .int .i64 a0_3, .slice A0_4 l0_4.length c0_4, .int .i64 a0_5, .bool a0_6, .int .i64 a0_7, .int .i64 a0_8, .int .i64 a0_9, .slice A0_10 l0_10.length c0_10]] w fun e w' => e = .returned (.bool r) ∧ Below w.heap.size w w' := by
 have gm1 : decide (a0_3 < (l0_10.length : Int)) = false := gm; have gv1 : decide (a0_1 < (l0_4.length : Int)) = false := gv; have gz1 : decide (0 < (l0_4.length : Int)) = false := gz
 have gz2 : decide (0 < l0_4.length) = false := by rw [← gz1]; exact decide_eq_decide.2 (by omega)
 subst g6
 have HZ := Aside0.mk hz; have HR := Aside0.mk hr0_10
 replace hr := Aside0.mk hr
 clear hz hr0_10
 go_enter Try.func32, Try.ntmps32
 go_wp2_with (first | ((with_reducible refine gate_dst (N := 1) rfl ?_); refine box_event ?hg (N := 1) ?hd (cs := #[.slice A0_0 l0_0.length c0_0, .int .i64 a0_1, .string a0_2, .int .i64 a0_3, .slice A0_4 l0_4.length c0_4, .int .i64 a0_5, .bool true, .int .i64 a0_7, .int .i64 a0_8, .int .i64 a0_9, .slice A0_10 l0_10.length c0_10]) (t := 36) ?hr ?_; (case hd => rfl); (case hg => rfl); (case hr => first | (go_simp; done) | (go_simp; rfl)); intro gb hg w3 hbox hb; have HB := Aside0.mk hb; have BK := Aside0.mk hbox; have GE := Aside0.mk (by rw [hg]; exact Nat.le_refl _ : w.heap.size ≤ gb); clear hb hbox hg; have hcz0 : w3.cell? ⟨gb, 0, none⟩ = some (.slice A0_0 l0_0.length c0_0) := (blk_cell BK.out 0).trans rfl; have hcz1 : w3.cell? ⟨gb, 1, none⟩ = some (.int .i64 a0_1) := (blk_cell BK.out 1).trans rfl; have hcz2 : w3.cell? ⟨gb, 2, none⟩ = some (.string a0_2) := (blk_cell BK.out 2).trans rfl; have hcz3 : w3.cell? ⟨gb, 3, none⟩ = some (.int .i64 a0_3) := (blk_cell BK.out 3).trans rfl; have hcz4 : w3.cell? ⟨gb, 4, none⟩ = some (.slice A0_4 l0_4.length c0_4) := (blk_cell BK.out 4).trans rfl; have hcz5 : w3.cell? ⟨gb, 5, none⟩ = some (.int .i64 a0_5) := (blk_cell BK.out 5).trans rfl; have hcz6 : w3.cell? ⟨gb, 6, none⟩ = some (.bool true) := (blk_cell BK.out 6).trans rfl; have hcz7 : w3.cell? ⟨gb, 7, none⟩ = some (.int .i64 a0_7) := (blk_cell BK.out 7).trans rfl; have hcz8 : w3.cell? ⟨gb, 8, none⟩ = some (.int .i64 a0_8) := (blk_cell BK.out 8).trans rfl; have hcz9 : w3.cell? ⟨gb, 9, none⟩ = some (.int .i64 a0_9) := (blk_cell BK.out 9).trans rfl; have hcz10 : w3.cell? ⟨gb, 10, none⟩ = some (.slice A0_10 l0_10.length c0_10) := (blk_cell BK.out 10).trans rfl) | ((with_reducible refine gate_callee (f := 59) rfl ?_); (try (refine gate_guard (by rfl) ?_; dsimp only)); refine goesL_ (some 12) rfl rfl Try.func59 (by kernel_rfl) rfl #[.slice A0_0 l0_0.length c0_0, .agg #[.int .i64 a0_1, .string a0_2]] rfl (by (try simp only [List.map_toArray, List.map_cons, List.map_nil]); first | done | rfl) ?_; (with_reducible refine (impl_rowed.calls k _ _ l0_0 a0_1 a0_2 true _ ?side1 hc0_0 h1.out).mono ?_); (case side1 => exact Kd.C_below hr0_0 HB.out); rintro e w4 ⟨rfl, hb⟩; refine ⟨_, rfl, ?_⟩; have HB4 := Aside0.mk (below_step HB.out hb); have BK4 := Aside0.mk (blk_below BK.out hb); clear hb HB BK; clear hcz0 hcz1 hcz2 hcz3 hcz4 hcz5 hcz6 hcz7 hcz8 hcz9 hcz10; have hcy0 : w4.cell? ⟨gb, 0, none⟩ = some (.slice A0_0 l0_0.length c0_0) := (blk_cell BK4.out 0).trans rfl; have hcy1 : w4.cell? ⟨gb, 1, none⟩ = some (.int .i64 a0_1) := (blk_cell BK4.out 1).trans rfl; have hcy2 : w4.cell? ⟨gb, 2, none⟩ = some (.string a0_2) := (blk_cell BK4.out 2).trans rfl; have hcy3 : w4.cell? ⟨gb, 3, none⟩ = some (.int .i64 a0_3) := (blk_cell BK4.out 3).trans rfl; have hcy4 : w4.cell? ⟨gb, 4, none⟩ = some (.slice A0_4 l0_4.length c0_4) := (blk_cell BK4.out 4).trans rfl; have hcy5 : w4.cell? ⟨gb, 5, none⟩ = some (.int .i64 a0_5) := (blk_cell BK4.out 5).trans rfl; have hcy6 : w4.cell? ⟨gb, 6, none⟩ = some (.bool true) := (blk_cell BK4.out 6).trans rfl; have hcy7 : w4.cell? ⟨gb, 7, none⟩ = some (.int .i64 a0_7) := (blk_cell BK4.out 7).trans rfl; have hcy8 : w4.cell? ⟨gb, 8, none⟩ = some (.int .i64 a0_8) := (blk_cell BK4.out 8).trans rfl; have hcy9 : w4.cell? ⟨gb, 9, none⟩ = some (.int .i64 a0_9) := (blk_cell BK4.out 9).trans rfl; have hcy10 : w4.cell? ⟨gb, 10, none⟩ = some (.slice A0_10 l0_10.length c0_10) := (blk_cell BK4.out 10).trans rfl) | (go_at_call 64; (try simp only [i64_w, i32_w]); (with_reducible refine (impl_within.calls a0_3 0 40 true _ h2.out).mono ?_); rintro e w' ⟨rfl, ⟨nd, rfl⟩⟩) | (go_at_call 77; (try simp only [i64_w, i32_w]); refine (impl_placeOfBits.calls k _ _ l0_4 pv true _ ?_ hc0_4 h3.out).mono ?_; exact Kd.C_below hr0_4 (pw_below_drewN HB4.out _); rintro e w' ⟨rfl, ⟨nd, rfl⟩⟩) | (go_at_call 64; (try simp only [i64_w, i32_w]); (with_reducible refine (impl_within.calls a0_5 (-1) 1 true _ h4.out).mono ?_); rintro e w' ⟨rfl, ⟨nd, rfl⟩⟩) | ((with_reducible refine gate_dst (N := 66) rfl ?_); refine wpList_mkmap (κ := ByteArray) (P := Try.prog) (t := 90) ?_ ?_ 9 3 Value.string (fun s => s.size ≤ maxLen) ?_; rfl; rfl; intro mb w5 hmb HM0 hb5; have HM := Aside0.mk HM0; have HB5 := Aside0.mk (below_step (pw_below_drewN HB4.out _) hb5); have BK5 := Aside0.mk (blk_below (blk_drewN BK4.out _) hb5); have MG := Aside0.mk (by rw [hmb]; exact (pw_below_drewN HB4.out _).size : w.heap.size ≤ mb); clear HM0 hb5 hmb HB4 BK4; clear hcy0 hcy1 hcy2 hcy3 hcy4 hcy5 hcy6 hcy7 hcy8 hcy9 hcy10; have hcx0 : w5.cell? ⟨gb, 0, none⟩ = some (.slice A0_0 l0_0.length c0_0) := (blk_cell BK5.out 0).trans rfl; have hcx1 : w5.cell? ⟨gb, 1, none⟩ = some (.int .i64 a0_1) := (blk_cell BK5.out 1).trans rfl; have hcx2 : w5.cell? ⟨gb, 2, none⟩ = some (.string a0_2) := (blk_cell BK5.out 2).trans rfl; have hcx3 : w5.cell? ⟨gb, 3, none⟩ = some (.int .i64 a0_3) := (blk_cell BK5.out 3).trans rfl; have hcx4 : w5.cell? ⟨gb, 4, none⟩ = some (.slice A0_4 l0_4.length c0_4) := (blk_cell BK5.out 4).trans rfl; have hcx5 : w5.cell? ⟨gb, 5, none⟩ = some (.int .i64 a0_5) := (blk_cell BK5.out 5).trans rfl; have hcx6 : w5.cell? ⟨gb, 6, none⟩ = some (.bool true) := (blk_cell BK5.out 6).trans rfl; have hcx7 : w5.cell? ⟨gb, 7, none⟩ = some (.int .i64 a0_7) := (blk_cell BK5.out 7).trans rfl; have hcx8 : w5.cell? ⟨gb, 8, none⟩ = some (.int .i64 a0_8) := (blk_cell BK5.out 8).trans rfl; have hcx9 : w5.cell? ⟨gb, 9, none⟩ = some (.int .i64 a0_9) := (blk_cell BK5.out 9).trans rfl; have hcx10 : w5.cell? ⟨gb, 10, none⟩ = some (.slice A0_10 l0_10.length c0_10) := (blk_cell BK5.out 10).trans rfl))
 clear hcx0 hcx1 hcx2 hcx3 hcx4 hcx5 hcx6 hcx7 hcx8 hcx9 hcx10
 go_loopg [70] l0_10.length (fun kq v70 wr => ∃ i : Nat, v70 = .int .i64 i ∧ Aside0 (i ≤ l0_10.length ∧ kq = l0_10.length - i) ∧ Aside0 (∀ j, j < i → okSeen l0_10 j) ∧ Aside0 (IsMp Try.prog 9 3 Value.string (fun s => s.size ≤ maxLen) wr mb (seenMap l0_10 i)) ∧ Aside0 (wr.heap[gb]? = some (.cells #[.slice A0_0 l0_0.length c0_0, .int .i64 a0_1, .string a0_2, .int .i64 a0_3, .slice A0_4 l0_4.length c0_4, .int .i64 a0_5, .bool true, .int .i64 a0_7, .int .i64 a0_8, .int .i64 a0_9, .slice A0_10 l0_10.length c0_10] 36 (0, 0))) ∧ Aside0 (Below w.heap.size w wr))
 case atStart => exact ⟨0, rfl, ⟨by omega, by omega⟩, ⟨fun j hj => by omega⟩, HM, BK5, HB5⟩
 case round =>
  clear HM BK5 HB5
  obtain ⟨i, rfl, hi, hall, HM, BK, HB⟩ := hrel
  by_cases hlt : i < l0_10.length
  ·have hd0 : decide (i < l0_10.length) = true := decide_eq_true hlt
   have hd1 : decide ((i : Int) < (l0_10.length : Int)) = true := decide_eq_true (by omega)
   have hmx := (Kd.C_max HR.out)
   obtain ⟨ad, e_, hx0, hx1⟩ := at_T86 HR.out (i : Int) (by omega) (by omega)
   cases e_
   replace hx0 := (HB.out.cell (World.block_lt_of_cell? w _ hx0)).trans hx0
   replace hx1 := (HB.out.cell (World.block_lt_of_cell? w _ hx1)).trans hx1
   rw [Int.toNat_natCast] at hx0 hx1
   have hw4 : wrap64 ((i : Int) + 1) = (i : Int) + 1 := by have := hmx; unfold wrap64; omega
   have hwf : Aside0 ((rd_T86 l0_10 i).f0.size ≤ maxLen) := ⟨HZ.out _ (by rw [show rd_T86 l0_10 i = l0_10[i] from by simp [rd_T86, List.getD_eq_getElem?_getD, List.getElem?_eq_getElem hlt]]; exact List.getElem_mem hlt)⟩
   have hml : Aside0 ((seenMap l0_10 i).length < maxLen) := ⟨by have := hmx; simp [seenMap]; unfold maxLen; omega⟩
   clear hmx
   by_cases c0 : (rd_T86 l0_10 i).f1 = 0 ∨ (rd_T86 l0_10 i).f1 = 1
   ·by_cases c5 : (rd_T86 l0_10 i).f0 ∈ ((l0_10.take i).map (fun s => s.f0) : List ByteArray)
    ·have d5 : mget (seenMap l0_10 i) (rd_T86 l0_10 i).f0 = 1 := by rw [mget_seen, if_pos c5]
     have c5 := Aside0.mk c5
     rcases c0 with c0 | c0
     ·have d0 : ((rd_T86 l0_10 i).f1 != 0) = false := by rw [c0]; rfl
      clear c0
      go_wp2_with (first | (at_lookup; (try (refine gate_guard (by rfl) ?_; dsimp only)); refine wpList_mget (κ := ByteArray) (P := Try.prog) (t := 90) (k := 9) (e := 3) (m := seenMap l0_10 i) rfl _ _ rfl strCodec Try.underlying90 Try.underlying3 zeroInt (HM.out.alloc _) rfl (rd_T86 l0_10 i).f0 rfl hwf.out ?_))
      go_ret
      have hr0 : r = false := by rw [hr.out, decide_eq_false (fun h : okMemo l0_10 => (h i hlt).2 c5.out)]; rfl
      rw [hr0]
      exact ⟨rfl, below_alloc HB.out _⟩
     ·have d0 : ((rd_T86 l0_10 i).f1 != 0) = true := by rw [c0]; rfl
      have d1 : ((rd_T86 l0_10 i).f1 != 1) = false := by rw [c0]; rfl
      clear c0
      go_wp2_with (first | (at_lookup; (try (refine gate_guard (by rfl) ?_; dsimp only)); refine wpList_mget (κ := ByteArray) (P := Try.prog) (t := 90) (k := 9) (e := 3) (m := seenMap l0_10 i) rfl _ _ rfl strCodec Try.underlying90 Try.underlying3 zeroInt (HM.out.alloc _) rfl (rd_T86 l0_10 i).f0 rfl hwf.out ?_))
      go_ret
      have hr0 : r = false := by rw [hr.out, decide_eq_false (fun h : okMemo l0_10 => (h i hlt).2 c5.out)]; rfl
      rw [hr0]
      exact ⟨rfl, below_alloc HB.out _⟩
    ·have d5 : mget (seenMap l0_10 i) (rd_T86 l0_10 i).f0 = 0 := by rw [mget_seen, if_neg c5]
     have hok := Aside0.mk (⟨c0, c5⟩ : okSeen l0_10 i); clear c5
     rcases c0 with c0 | c0
     ·have d0 : ((rd_T86 l0_10 i).f1 != 0) = false := by rw [c0]; rfl
      clear c0
      go_wp2_with (first | (at_lookup; (try (refine gate_guard (by rfl) ?_; dsimp only)); refine wpList_mget (κ := ByteArray) (P := Try.prog) (t := 90) (k := 9) (e := 3) (m := seenMap l0_10 i) rfl _ _ rfl strCodec Try.underlying90 Try.underlying3 zeroInt (HM.out.alloc _) rfl (rd_T86 l0_10 i).f0 rfl hwf.out ?_) | (at_mapUpdate; refine wpList_mput (κ := ByteArray) (P := Try.prog) (t := 90) (k := 9) (e := 3) (m := seenMap l0_10 i) rfl _ _ _ rfl strCodec Try.underlying90 Try.underlying3 (HM.out.alloc _) rfl (rd_T86 l0_10 i).f0 rfl hwf.out 1 rfl (by decide) hml.out ?_; intro w1 hm1 hg1))
      go_roundg (l0_10.length - (i + 1))
      case measure => have := hi.out; omega
      case rel => exact ⟨i + 1, (by first | rfl | (rw [hw4]; rfl)), ⟨by have := hi.out; omega, rfl⟩, ⟨fun j hj => by rcases Nat.lt_succ_iff_lt_or_eq.1 hj with h | rfl; exact hall.out j h; exact hok.out⟩, ⟨by rw [seenMap_succ _ _ hlt]; exact hm1⟩, ⟨blk_grown (blk_alloc BK.out _) hg1 (by intro h_; injection h_ with h_; exact (HM.out.ne BK.out) h_.symm)⟩, ⟨pw_below_grown (below_alloc HB.out _) (some mb) (below_alloc HB.out _).size hg1 (fun k_ hk_ => by injection hk_ with hk_; subst hk_; exact MG.out)⟩⟩
     ·have d0 : ((rd_T86 l0_10 i).f1 != 0) = true := by rw [c0]; rfl
      have d1 : ((rd_T86 l0_10 i).f1 != 1) = false := by rw [c0]; rfl
      clear c0
      go_wp2_with (first | (at_lookup; (try (refine gate_guard (by rfl) ?_; dsimp only)); refine wpList_mget (κ := ByteArray) (P := Try.prog) (t := 90) (k := 9) (e := 3) (m := seenMap l0_10 i) rfl _ _ rfl strCodec Try.underlying90 Try.underlying3 zeroInt (HM.out.alloc _) rfl (rd_T86 l0_10 i).f0 rfl hwf.out ?_) | (at_mapUpdate; refine wpList_mput (κ := ByteArray) (P := Try.prog) (t := 90) (k := 9) (e := 3) (m := seenMap l0_10 i) rfl _ _ _ rfl strCodec Try.underlying90 Try.underlying3 (HM.out.alloc _) rfl (rd_T86 l0_10 i).f0 rfl hwf.out 1 rfl (by decide) hml.out ?_; intro w1 hm1 hg1))
      go_roundg (l0_10.length - (i + 1))
      case measure => have := hi.out; omega
      case rel => exact ⟨i + 1, (by first | rfl | (rw [hw4]; rfl)), ⟨by have := hi.out; omega, rfl⟩, ⟨fun j hj => by rcases Nat.lt_succ_iff_lt_or_eq.1 hj with h | rfl; exact hall.out j h; exact hok.out⟩, ⟨by rw [seenMap_succ _ _ hlt]; exact hm1⟩, ⟨blk_grown (blk_alloc BK.out _) hg1 (by intro h_; injection h_ with h_; exact (HM.out.ne BK.out) h_.symm)⟩, ⟨pw_below_grown (below_alloc HB.out _) (some mb) (below_alloc HB.out _).size hg1 (fun k_ hk_ => by injection hk_ with hk_; subst hk_; exact MG.out)⟩⟩
   ·have d0 : ((rd_T86 l0_10 i).f1 != 0) = true := bne_iff_ne.2 (fun h => c0 (.inl h))
    have d1 : ((rd_T86 l0_10 i).f1 != 1) = true := bne_iff_ne.2 (fun h => c0 (.inr h))
    have c0 := Aside0.mk c0
    go_wp2
    go_ret
    have hr0 : r = false := by rw [hr.out, decide_eq_false (fun h : okMemo l0_10 => c0.out (h i hlt).1)]; rfl
    rw [hr0]
    exact ⟨rfl, below_alloc HB.out _⟩
  ·have hd0 : decide (i < l0_10.length) = false := decide_eq_false hlt
   have hd1 : decide ((i : Int) < (l0_10.length : Int)) = false := decide_eq_false (by omega)
   have hM := Aside0.mk (fun j hj => hall.out j (by omega) : okMemo l0_10)
   have hcz6 : wr.cell? ⟨gb, 7, none⟩ = some (.int .i64 a0_7) := (blk_cell BK.out 7).trans rfl; have hcz7 : wr.cell? ⟨gb, 8, none⟩ = some (.int .i64 a0_8) := (blk_cell BK.out 8).trans rfl; have hcz8 : wr.cell? ⟨gb, 9, none⟩ = some (.int .i64 a0_9) := (blk_cell BK.out 9).trans rfl
   obtain ⟨b7, e7⟩ : ∃ b, b = decide (0 ≤ a0_7 ∧ a0_7 ≤ 1000000000) := ⟨_, rfl⟩
   have h7 := Aside0.mk ((isCount_eq a0_7).trans (by rw [← e7]) : impl_isCount.f a0_7 = some b7)
   cases b7 with
      | false =>
    replace e7 := Aside0.mk e7
    go_wp2_with (first | (go_at_call 78; (try simp only [i64_w, i32_w]); (with_reducible refine (impl_isCount.calls a0_7 false _ h7.out).mono ?_); rintro e w' ⟨rfl, ⟨nd, rfl⟩⟩))
    go_ret
    have hr0 : r = false := by rw [hr.out, (decide_eq_true hM.out : decide (okMemo l0_10) = true)]; simp [okCounts, ← e7.out]
    rw [hr0]
    exact ⟨rfl, by repeat (first | (with_reducible first | exact HB.out | apply pw_below_drewN) | exact HB.out)⟩
      | true =>
    replace e7 := Aside0.mk e7
    obtain ⟨b8, e8⟩ : ∃ b, b = decide (0 ≤ a0_8 ∧ a0_8 ≤ 1000000000) := ⟨_, rfl⟩
    have h8 := Aside0.mk ((isCount_eq a0_8).trans (by rw [← e8]) : impl_isCount.f a0_8 = some b8)
    cases b8 with
        | false =>
     replace e8 := Aside0.mk e8
     go_wp2_with (first | (go_at_call 78; (try simp only [i64_w, i32_w]); (with_reducible refine (impl_isCount.calls a0_7 true _ h7.out).mono ?_); rintro e w' ⟨rfl, ⟨nd, rfl⟩⟩) | (go_at_call 78; (try simp only [i64_w, i32_w]); (with_reducible refine (impl_isCount.calls a0_8 false _ h8.out).mono ?_); rintro e w' ⟨rfl, ⟨nd, rfl⟩⟩))
     go_ret
     have hr0 : r = false := by rw [hr.out, (decide_eq_true hM.out : decide (okMemo l0_10) = true)]; simp [okCounts, ← e7.out, ← e8.out]
     rw [hr0]
     exact ⟨rfl, by repeat (first | (with_reducible first | exact HB.out | apply pw_below_drewN) | exact HB.out)⟩
        | true =>
     replace e8 := Aside0.mk e8
     obtain ⟨b9, e9⟩ : ∃ b, b = decide (0 ≤ a0_9 ∧ a0_9 ≤ 1000000000) := ⟨_, rfl⟩
     have h9 := Aside0.mk ((isCount_eq a0_9).trans (by rw [← e9]) : impl_isCount.f a0_9 = some b9)
     cases b9 with
          | false =>
      replace e9 := Aside0.mk e9
      go_wp2_with (first | (go_at_call 78; (try simp only [i64_w, i32_w]); (with_reducible refine (impl_isCount.calls a0_7 true _ h7.out).mono ?_); rintro e w' ⟨rfl, ⟨nd, rfl⟩⟩) | (go_at_call 78; (try simp only [i64_w, i32_w]); (with_reducible refine (impl_isCount.calls a0_8 true _ h8.out).mono ?_); rintro e w' ⟨rfl, ⟨nd, rfl⟩⟩) | (go_at_call 78; (try simp only [i64_w, i32_w]); (with_reducible refine (impl_isCount.calls a0_9 false _ h9.out).mono ?_); rintro e w' ⟨rfl, ⟨nd, rfl⟩⟩))
      go_ret
      have hr0 : r = false := by rw [hr.out, (decide_eq_true hM.out : decide (okMemo l0_10) = true)]; simp [okCounts, ← e7.out, ← e8.out, ← e9.out]
      rw [hr0]
      exact ⟨rfl, by repeat (first | (with_reducible first | exact HB.out | apply pw_below_drewN) | exact HB.out)⟩
          | true =>
      replace e9 := Aside0.mk e9
      go_wp2_with (first | (go_at_call 78; (try simp only [i64_w, i32_w]); (with_reducible refine (impl_isCount.calls a0_7 true _ h7.out).mono ?_); rintro e w' ⟨rfl, ⟨nd, rfl⟩⟩) | (go_at_call 78; (try simp only [i64_w, i32_w]); (with_reducible refine (impl_isCount.calls a0_8 true _ h8.out).mono ?_); rintro e w' ⟨rfl, ⟨nd, rfl⟩⟩) | (go_at_call 78; (try simp only [i64_w, i32_w]); (with_reducible refine (impl_isCount.calls a0_9 true _ h9.out).mono ?_); rintro e w' ⟨rfl, ⟨nd, rfl⟩⟩))
      go_ret
      have hr0 : r = true := by rw [hr.out, (decide_eq_true hM.out : decide (okMemo l0_10) = true)]; simp [okCounts, ← e7.out, ← e8.out, ← e9.out]
      rw [hr0]
      exact ⟨rfl, by repeat (first | (with_reducible first | exact HB.out | apply pw_below_drewN) | exact HB.out)⟩
theorem impl_MachineOk.calls (k : Nat) (A0_0 : Option Addr) (c0_0 : Nat) (l0_0 : List Bool) (a0_1 : Int) (a0_2 : ByteArray) (a0_3 : Int) (A0_4 : Option Addr) (c0_4 : Nat) (l0_4 : List Int) (a0_5 : Int) (a0_6 : Bool) (a0_7 : Int) (a0_8 : Int) (a0_9 : Int) (A0_10 : Option Addr) (c0_10 : Nat) (l0_10 : List (S86)) (r : Bool) (w : World) (hr0_0 : Kd.C Kd.bool w A0_0 l0_0.length l0_0) (hc0_0 : l0_0.length ≤ c0_0) (hr0_4 : Kd.C (Kd.int .i64) w A0_4 l0_4.length l0_4) (hc0_4 : l0_4.length ≤ c0_4) (hr0_10 : Kd.C k86 w A0_10 l0_10.length l0_10) (hc0_10 : l0_10.length ≤ c0_10) (h : impl_MachineOk.f k l0_0 a0_1 a0_2 a0_3 l0_4 a0_5 a0_6 a0_7 a0_8 a0_9 l0_10 = some r) :
  Calls Try.prog 32 #[.agg #[.slice A0_0 l0_0.length c0_0, .int .i64 a0_1, .string a0_2, .int .i64 a0_3, .slice A0_4 l0_4.length c0_4, .int .i64 a0_5, .bool a0_6, .int .i64 a0_7, .int .i64 a0_8, .int .i64 a0_9, .slice A0_10 l0_10.length c0_10]] w fun e w' => e = .returned (.bool r) ∧ Below w.heap.size w w' := by
 unfold impl_MachineOk.f at h
 split at h
 ·rename_i hz
  obtain ⟨b1, h1, h⟩ := Option.bind_eq_some_iff.1 h
  obtain ⟨⟨pv, b3⟩, h3, h⟩ := Option.bind_eq_some_iff.1 h
  have h := (Option.some.inj h).symm; have e2 := within_eq a0_3 0 40; have e4 := within_eq a0_5 (-1) 1
  have no : r = false → Calls Try.prog 32 #[.agg #[.slice A0_0 l0_0.length c0_0, .int .i64 a0_1, .string a0_2, .int .i64 a0_3, .slice A0_4 l0_4.length c0_4, .int .i64 a0_5, .bool a0_6, .int .i64 a0_7, .int .i64 a0_8, .int .i64 a0_9, .slice A0_10 l0_10.length c0_10]] w (fun e w' => e = .returned (.bool false) ∧ Below w.heap.size w w') → Calls Try.prog 32 #[.agg #[.slice A0_0 l0_0.length c0_0, .int .i64 a0_1, .string a0_2, .int .i64 a0_3, .slice A0_4 l0_4.length c0_4, .int .i64 a0_5, .bool a0_6, .int .i64 a0_7, .int .i64 a0_8, .int .i64 a0_9, .slice A0_10 l0_10.length c0_10]] w fun e w' => e = .returned (.bool r) ∧ Below w.heap.size w w' := fun hr hc => by rw [hr]; exact hc
  cases b1 with
    | false => exact no (by rw [h]; rfl) (mok_1 k A0_0 c0_0 l0_0 a0_1 a0_2 a0_3 A0_4 c0_4 l0_4 a0_5 a0_6 a0_7 a0_8 a0_9 A0_10 c0_10 l0_10 w hr0_0 hc0_0 hr0_4 hc0_4 hr0_10 hc0_10 ⟨h1⟩)
    | true =>
   simp only [Bool.true_and] at h
   unfold okFront at h
   cases c2 : decide (0 ≤ a0_3 ∧ a0_3 ≤ 40) with
      | false => exact no (by rw [h, c2]; rfl) (mok_2 k A0_0 c0_0 l0_0 a0_1 a0_2 a0_3 A0_4 c0_4 l0_4 a0_5 a0_6 a0_7 a0_8 a0_9 A0_10 c0_10 l0_10 w hr0_0 hc0_0 hr0_4 hc0_4 hr0_10 hc0_10 ⟨h1⟩ ⟨e2.trans (by rw [c2])⟩)
      | true =>
    rw [c2] at e2
    cases c3 : decide ((l0_10.length : Int) > a0_3) with
        | true => exact no (by rw [h, c2, c3]; rfl) (mok_3 k A0_0 c0_0 l0_0 a0_1 a0_2 a0_3 A0_4 c0_4 l0_4 a0_5 a0_6 a0_7 a0_8 a0_9 A0_10 c0_10 l0_10 w hr0_0 hc0_0 hr0_4 hc0_4 hr0_10 hc0_10 ⟨h1⟩ ⟨e2⟩ c3)
        | false =>
     cases c4 : decide ((l0_4.length : Int) > a0_1) with
          | true => exact no (by rw [h, c2, c3, c4]; rfl) (mok_4 k A0_0 c0_0 l0_0 a0_1 a0_2 a0_3 A0_4 c0_4 l0_4 a0_5 a0_6 a0_7 a0_8 a0_9 A0_10 c0_10 l0_10 w hr0_0 hc0_0 hr0_4 hc0_4 hr0_10 hc0_10 ⟨h1⟩ ⟨e2⟩ c3 c4)
          | false =>
      rw [c2, c3, c4] at h
      simp only [Bool.not_false, Bool.true_and] at h
      cases b3 with
            | false => exact no (by rw [h]; rfl) (mok_5 k A0_0 c0_0 l0_0 a0_1 a0_2 a0_3 A0_4 c0_4 l0_4 a0_5 a0_6 a0_7 a0_8 a0_9 A0_10 c0_10 l0_10 w hr0_0 hc0_0 hr0_4 hc0_4 hr0_10 hc0_10 ⟨h1⟩ ⟨e2⟩ c3 c4 pv ⟨h3⟩)
            | true =>
       simp only [Bool.true_and] at h
       unfold okRet at h
       cases c5 : decide (-1 ≤ a0_5 ∧ a0_5 ≤ 1) with
              | false => exact no (by rw [h, c5]; rfl) (mok_6 k A0_0 c0_0 l0_0 a0_1 a0_2 a0_3 A0_4 c0_4 l0_4 a0_5 a0_6 a0_7 a0_8 a0_9 A0_10 c0_10 l0_10 w hr0_0 hc0_0 hr0_4 hc0_4 hr0_10 hc0_10 ⟨h1⟩ ⟨e2⟩ c3 c4 pv ⟨h3⟩ ⟨e4.trans (by rw [c5])⟩)
              | true =>
        rw [c5] at e4 h
        simp only [Bool.true_and] at h
        cases c6 : a0_6 with
                | false =>
         rw [c6] at h
         simp only [Bool.false_and, Bool.not_false, Bool.true_and] at h
         rw [← c6]
         exact mok_9 k r A0_0 c0_0 l0_0 a0_1 a0_2 a0_3 A0_4 c0_4 l0_4 a0_5 a0_6 a0_7 a0_8 a0_9 A0_10 c0_10 l0_10 w hr0_0 hc0_0 hr0_4 hc0_4 hr0_10 hc0_10 hz h ⟨h1⟩ ⟨e2⟩ c3 c4 pv ⟨h3⟩ ⟨e4⟩ c6
                | true =>
         rw [c6] at h
         simp only [Bool.true_and] at h
         rw [← c6]
         cases c7 : decide (a0_5 < 0) with
                  | true => exact no (by rw [h, c7]; rfl) (mok_7 k A0_0 c0_0 l0_0 a0_1 a0_2 a0_3 A0_4 c0_4 l0_4 a0_5 a0_6 a0_7 a0_8 a0_9 A0_10 c0_10 l0_10 w hr0_0 hc0_0 hr0_4 hc0_4 hr0_10 hc0_10 ⟨h1⟩ ⟨e2⟩ c3 c4 pv ⟨h3⟩ ⟨e4⟩ c6 c7)
                  | false =>
          cases c8 : decide ((l0_4.length : Int) > 0) with
                    | true => exact no (by rw [h, c7, c8]; rfl) (mok_8 k A0_0 c0_0 l0_0 a0_1 a0_2 a0_3 A0_4 c0_4 l0_4 a0_5 a0_6 a0_7 a0_8 a0_9 A0_10 c0_10 l0_10 w hr0_0 hc0_0 hr0_4 hc0_4 hr0_10 hc0_10 ⟨h1⟩ ⟨e2⟩ c3 c4 pv ⟨h3⟩ ⟨e4⟩ c6 c7 c8)
                    | false =>
           rw [c7, c8] at h
           exact mok_10 k r A0_0 c0_0 l0_0 a0_1 a0_2 a0_3 A0_4 c0_4 l0_4 a0_5 a0_6 a0_7 a0_8 a0_9 A0_10 c0_10 l0_10 w hr0_0 hc0_0 hr0_4 hc0_4 hr0_10 hc0_10 hz h ⟨h1⟩ ⟨e2⟩ c3 c4 pv ⟨h3⟩ ⟨e4⟩ c6 c7 c8
 ·cases h
end Go.Proofs.Ytlpfmhikahlcoaa.G
namespace Go.Proofs.Ytlpfmhikahlcoaa.Fv
open Go.RowKit Go.Proofs.YtlpfmhikahlcoaaW.PrintWords Go.Proofs.YtlpfmhikahlcoaaW.PrintLast Go.Proofs.YtlpfmhikahlcoaaW.PrintMore
structure Enterable (P : Program) (c : Nat) : Prop where
  out : ∃ fn, P.funcs[c]? = some fn ∧ (fn.name == "runtime.NumGoroutine") = false ∧ fn.body.isSome = true
theorem Enterable.of {P : Program} {c : Nat} {fn : Func} (hf : P.funcs[c]? = some fn) (hname : (fn.name == "runtime.NumGoroutine") = false) (hb : fn.body.isSome = true) : Enterable P c := ⟨fn, hf, hname, hb⟩
section
variable {P : Program} {ops : Array Oper} {rest : List Oper} {o : Oper} {a : Act} {w : World} {Q : Exit → Act → World → Prop}
theorem gate_calleeV {q : Operand} {ars : Array Operand} {ts : Array TypeId} (_ho : o.op = .call { callee := .value q, args := ars, argTypes := ts }) (h : wpList P ops Q (o :: rest) a w) : wpList P ops Q (o :: rest) a w := h
theorem goesV_ (N : Option Tmp) (hd : o.dst = N) (hg : o.guard = none) {f : FuncId} {q : Operand} {caps : Array Value} {ars : Array Operand} {ts : Array TypeId} (hf : Enterable P f)
    (hv : a.eval q = .func (.func f) #[] caps) (args : Array Value) (hop : o.op = .call { callee := .value q, args := ars, argTypes := ts }) (hargs : ars.map a.eval = args)
    (h : Calls P f (args ++ caps) w fun e w' => ∃ v, e = .returned v ∧ wpList P ops Q rest (a.put N v) w') : wpList P ops Q (o :: rest) a w := by
  obtain ⟨fn, hf1, hf2, hf3⟩ := hf.out
  refine wpList_plain hg fun K hK => ?_
  have he := enters_ hf1 hf2 hf3 (args ++ caps) w
  have hrun : (execOp a.eval o).run P w = .ok (.enter f (args ++ caps)) w := by
    unfold execOp
    simp [hop, resolve, hv, Deferred.ofValue, invoke, hargs, he]
  unfold Oper.wp
  rw [hrun, Oper.upon_enter]
  refine h.mono fun e w'' hh => ?_
  obtain ⟨v, rfl, hk⟩ := hh
  subst hd
  exact hK _ _ hk
end
end Go.Proofs.Ytlpfmhikahlcoaa.Fv
namespace Go.Proofs.Ytlpfmhikahlcoaa.G
open Go.RowKit Go.Proofs.YtlpfmhikahlcoaaW.PrintWords Go.Proofs.YtlpfmhikahlcoaaW.PrintLast Go.Proofs.YtlpfmhikahlcoaaW.PrintMore
attribute [local go_sem] max2_int min2_int max_two min_two max_three min_three max_four min_four   -- for this text's walks alone
set_option linter.unusedVariables false
set_option linter.unusedSimpArgs false
def impl_digits.l0 : Nat → Int → ByteArray → Option (ByteArray)
  | 0, _, _ => none
  | k + 1, x0, x3 => if x3.toList = ([] : List UInt8) then ((some (([(IntKind.u64.wrap (48 + (Int.tmod x0 10))) % 256] : List Int) : List Int)).bind fun y101 => (if (strOfNums y101).size + x3.size ≤ 9223372036854775807 then (impl_digits.l0 k (IntKind.u64.wrap (Int.tdiv x0 10)) ((strOfNums y101) ++ x3)) else (none))) else (if x0 > 0 then ((some (([(IntKind.u64.wrap (48 + (Int.tmod x0 10))) % 256] : List Int) : List Int)).bind fun y104 => (if (strOfNums y104).size + x3.size ≤ 9223372036854775807 then (impl_digits.l0 k (IntKind.u64.wrap (Int.tdiv x0 10)) ((strOfNums y104) ++ x3)) else (none))) else (some x3))
def impl_digits.f (k : Nat) (a0 : Int) : Option (ByteArray) := impl_digits.l0 k a0 (⟨#[]⟩ : ByteArray)
set_option maxHeartbeats 8000000 in
set_option maxRecDepth 100000 in
theorem impl_digits.calls (k : Nat) (a0 : Int) (r : ByteArray) (w : World) (h : impl_digits.f k a0 = some r) :
    Calls Try.prog 131 #[.int .u64 a0] w fun e w' => e = .returned (.string r) ∧ Below w.heap.size w w' := by
  have HB := Aside0.mk (Below.refl w.heap.size w)
  have H : (impl_digits.l0 k a0 (⟨#[]⟩ : ByteArray)) = some r := h
  clear h
  have H' := Aside0.mk H
  clear H
  go_enter Try.func131, Try.ntmps131
  go_wp2
  go_loopg [0, 3] k (fun kq v0 v3 w' => ∃ (x0_1 : Int) (x3_1 : ByteArray), v0 = .int .u64 x0_1 ∧ v3 = .string x3_1 ∧ Aside0 (impl_digits.l0 kq x0_1 x3_1 = some r) ∧ Aside0 (kq ≤ k) ∧ Aside0 (Below w.heap.size w w'))
  case atStart => exact ⟨(a0), ((⟨#[]⟩ : ByteArray)), (by first | rfl | (simp; done) | (simp [*]; done)), (by first | rfl | (simp; done) | (simp [*]; done)), H', ⟨Nat.le_refl _⟩, ⟨by repeat (first | (with_reducible first | exact HB.out | apply below_alloc | apply pw_below_drewN | apply below_drew1) | exact HB.out)⟩⟩
  case round =>
    clear H'
    try clear c1
    obtain ⟨x0_1, x3_1, rfl, rfl, HA, HK1, HB⟩ := hrel
    cases gk with
    | zero => exact absurd HA.out (by simp [impl_digits.l0])
    | succ k1 =>
      have H := HA.out
      clear HA
      simp only [impl_digits.l0] at H
      by_cases c2 : x3_1.toList = ([] : List UInt8)
      · rw [if_pos c2] at H
        have c2b0 : (x3_1.toList == ([] : List UInt8)) = true := beq_iff_eq.mpr c2
        have c2b1 : (x3_1.toList != ([] : List UInt8)) = false := bne_eq_false_iff_eq.mpr c2
        clear c2
        obtain ⟨y101, hy101⟩ : ∃ y_ : List Int, y_ = (([(IntKind.u64.wrap (48 + (Int.tmod x0_1 10))) % 256] : List Int)) := ⟨_, rfl⟩
        replace H : (if (strOfNums y101).size + x3_1.size ≤ 9223372036854775807 then (impl_digits.l0 k1 (IntKind.u64.wrap (Int.tdiv x0_1 10)) ((strOfNums y101) ++ x3_1)) else (none)) = some r := by first | (rw [hy101]; with_reducible exact H) | (have H2_ := (Option.bind_some _ _).symm.trans H; rw [hy101]; with_reducible exact H2_) | (have H2_ := (Option.bind_some _ _).symm.trans H; with_reducible exact H2_) | with_reducible exact H | (rw [hy101]; exact H) | exact H
        have Ny101 := Aside0.mk hy101
        clear hy101
        by_cases c3 : (strOfNums y101).size + x3_1.size ≤ 9223372036854775807
        · rw [if_pos c3] at H
          have c3b0 := eq_true c3
          have c3b1 : decide ((strOfNums y101).size + x3_1.size ≤ 9223372036854775807) = true := decide_eq_true c3
          try have c3b2 : (9223372036854775807 < (strOfNums y101).size + x3_1.size) = False := eq_false (Nat.not_lt.2 c3)
          have H' := Aside0.mk H
          clear H
          go_wp2_with (first | ((with_reducible refine gate_dst (N := 16) rfl ?_); refine Kd.R_lit (Kd.int .u8) _ 5 ?hg (N := 16) ?hd (xs := ([(IntKind.u64.wrap (48 + (Int.tmod x0_1 10))) % 256] : List Int)) (inner := [.int .u8 ((IntKind.u64.wrap (48 + (Int.tmod x0_1 10))) % 256)]) (ok := fun _ => True) (okp := fun _ => True) ?hr ?hp (fun _ hk => hk) trivial (Below.refl _ _) (Nat.le_refl _) (by simp) ?_; (case hd => rfl); (case hg => rfl); (case hr => first | (go_simp; done) | (go_simp; rfl)); (case hp => exact (Reps.one (show Kd.M (Kd.int .u8) _ _ _ ((IntKind.u64.wrap (48 + (Int.tmod x0_1 10))) % 256) [.int .u8 ((IntKind.u64.wrap (48 + (Int.tmod x0_1 10))) % 256)] from rfl) (Reps.none _ _))); intro v102 w4 ho5 hb hg_ hnew_; clear hg_ hnew_; (first | rw [← Ny101.out] at ho5 | (simp only [Int.reduceToNat] at ho5; rw [← Ny101.out] at ho5)); have n0_ := Aside0.mk (Kd.R_lower ho5 (below_size (by repeat (first | (with_reducible first | exact HB.out | apply below_alloc | apply pw_below_drewN | apply below_drew1) | exact HB.out)))); have n1_ := Aside0.mk (below_step (by repeat (first | (with_reducible first | exact HB.out | apply below_alloc | apply pw_below_drewN | apply below_drew1) | exact HB.out)) hb); clear HB; have HO103 := n0_; have HB := n1_; clear n0_ n1_; clear hb ho5; have hcv6 := own_string (P := Try.prog) Try.underlying57 Try.underlying5 Try.underlying9 (Kd.own_of_R HO103.out)))
          go_roundg k1
          case measure => have := HK1.out; omega
          case rel => exact ⟨(IntKind.u64.wrap (Int.tdiv x0_1 10)), ((strOfNums y101) ++ x3_1), (by first | rfl | (simp; done) | (simp [*]; done)), (by first | rfl | (simp; done) | (simp [*]; done)), H', ⟨by have := HK1.out; omega⟩, ⟨by repeat (first | (with_reducible first | exact HB.out | apply below_alloc | apply pw_below_drewN | apply below_drew1) | exact HB.out)⟩⟩
        · rw [if_neg c3] at H
          exact absurd H (by simp)
      · rw [if_neg c2] at H
        have c2b0 : (x3_1.toList == ([] : List UInt8)) = false := beq_eq_false_iff_ne.mpr c2
        have c2b1 : (x3_1.toList != ([] : List UInt8)) = true := bne_iff_ne.mpr c2
        by_cases c7 : x0_1 > 0
        · rw [if_pos c7] at H
          have c7b0 : decide (0 < x0_1) = true := decide_eq_true c7
          clear c7
          obtain ⟨y104, hy104⟩ : ∃ y_ : List Int, y_ = (([(IntKind.u64.wrap (48 + (Int.tmod x0_1 10))) % 256] : List Int)) := ⟨_, rfl⟩
          replace H : (if (strOfNums y104).size + x3_1.size ≤ 9223372036854775807 then (impl_digits.l0 k1 (IntKind.u64.wrap (Int.tdiv x0_1 10)) ((strOfNums y104) ++ x3_1)) else (none)) = some r := by first | (rw [hy104]; with_reducible exact H) | (have H2_ := (Option.bind_some _ _).symm.trans H; rw [hy104]; with_reducible exact H2_) | (have H2_ := (Option.bind_some _ _).symm.trans H; with_reducible exact H2_) | with_reducible exact H | (rw [hy104]; exact H) | exact H
          have Ny104 := Aside0.mk hy104
          clear hy104
          by_cases c8 : (strOfNums y104).size + x3_1.size ≤ 9223372036854775807
          · rw [if_pos c8] at H
            have c8b0 := eq_true c8
            have c8b1 : decide ((strOfNums y104).size + x3_1.size ≤ 9223372036854775807) = true := decide_eq_true c8
            try have c8b2 : (9223372036854775807 < (strOfNums y104).size + x3_1.size) = False := eq_false (Nat.not_lt.2 c8)
            have H' := Aside0.mk H
            clear H
            go_wp2_with (first | ((with_reducible refine gate_dst (N := 16) rfl ?_); refine Kd.R_lit (Kd.int .u8) _ 5 ?hg (N := 16) ?hd (xs := ([(IntKind.u64.wrap (48 + (Int.tmod x0_1 10))) % 256] : List Int)) (inner := [.int .u8 ((IntKind.u64.wrap (48 + (Int.tmod x0_1 10))) % 256)]) (ok := fun _ => True) (okp := fun _ => True) ?hr ?hp (fun _ hk => hk) trivial (Below.refl _ _) (Nat.le_refl _) (by simp) ?_; (case hd => rfl); (case hg => rfl); (case hr => first | (go_simp; done) | (go_simp; rfl)); (case hp => exact (Reps.one (show Kd.M (Kd.int .u8) _ _ _ ((IntKind.u64.wrap (48 + (Int.tmod x0_1 10))) % 256) [.int .u8 ((IntKind.u64.wrap (48 + (Int.tmod x0_1 10))) % 256)] from rfl) (Reps.none _ _))); intro v105 w9 ho10 hb hg_ hnew_; clear hg_ hnew_; (first | rw [← Ny104.out] at ho10 | (simp only [Int.reduceToNat] at ho10; rw [← Ny104.out] at ho10)); have n0_ := Aside0.mk (Kd.R_lower ho10 (below_size (by repeat (first | (with_reducible first | exact HB.out | apply below_alloc | apply pw_below_drewN | apply below_drew1) | exact HB.out)))); have n1_ := Aside0.mk (below_step (by repeat (first | (with_reducible first | exact HB.out | apply below_alloc | apply pw_below_drewN | apply below_drew1) | exact HB.out)) hb); clear HB; have HO106 := n0_; have HB := n1_; clear n0_ n1_; clear hb ho10; have hcv11 := own_string (P := Try.prog) Try.underlying57 Try.underlying5 Try.underlying9 (Kd.own_of_R HO106.out)))
            go_roundg k1
            case measure => have := HK1.out; omega
            case rel => exact ⟨(IntKind.u64.wrap (Int.tdiv x0_1 10)), ((strOfNums y104) ++ x3_1), (by first | rfl | (simp; done) | (simp [*]; done)), (by first | rfl | (simp; done) | (simp [*]; done)), H', ⟨by have := HK1.out; omega⟩, ⟨by repeat (first | (with_reducible first | exact HB.out | apply below_alloc | apply pw_below_drewN | apply below_drew1) | exact HB.out)⟩⟩
          · rw [if_neg c8] at H
            exact absurd H (by simp)
        · rw [if_neg c7] at H
          have c7b0 : decide (0 < x0_1) = false := decide_eq_false c7
          clear c7
          obtain rfl := Option.some.inj H
          go_wp2
          go_ret
          exact ⟨by first | rfl | (simp [errW_none, errW_some] <;> rfl) | (simp [*, errW_none, errW_some] <;> rfl), by repeat (first | (with_reducible first | exact HB.out | apply below_alloc | apply pw_below_drewN | apply below_drew1) | exact HB.out)⟩
end Go.Proofs.Ytlpfmhikahlcoaa.G
namespace Go.Proofs.Ytlpfmhikahlcoaa.G
open Go.RowKit Go.Proofs.YtlpfmhikahlcoaaW.PrintWords Go.Proofs.YtlpfmhikahlcoaaW.PrintLast Go.Proofs.YtlpfmhikahlcoaaW.PrintMore
attribute [local go_sem] max2_int min2_int max_two min_two max_three min_three max_four min_four   -- for this text's walks alone
set_option linter.unusedVariables false
set_option linter.unusedSimpArgs false
def impl_decimal.f (k : Nat) (a0 : Int) : Option (ByteArray) := if a0 < 0 then ((impl_digits.f k (IntKind.u64.wrap ((IntKind.u64.wrap (wrap64 (-(wrap64 (a0 + 1))))) + 1))).bind fun t101 => (if 1 + t101.size ≤ 9223372036854775807 then (some ((⟨#[45]⟩ : ByteArray) ++ t101)) else (none))) else ((impl_digits.f k (IntKind.u64.wrap (a0))).bind fun t102 => (some t102))
set_option maxHeartbeats 8000000 in
set_option maxRecDepth 100000 in
theorem impl_decimal.calls (k : Nat) (a0 : Int) (r : ByteArray) (w : World) (h : impl_decimal.f k a0 = some r) :
    Calls Try.prog 122 #[.int .i64 a0] w fun e w' => e = .returned (.string r) ∧ Below w.heap.size w w' := by
  have HB := Aside0.mk (Below.refl w.heap.size w)
  have H : (if a0 < 0 then ((impl_digits.f k (IntKind.u64.wrap ((IntKind.u64.wrap (wrap64 (-(wrap64 (a0 + 1))))) + 1))).bind fun t101 => (if 1 + t101.size ≤ 9223372036854775807 then (some ((⟨#[45]⟩ : ByteArray) ++ t101)) else (none))) else ((impl_digits.f k (IntKind.u64.wrap (a0))).bind fun t102 => (some t102))) = some r := h
  clear h
  by_cases c2 : a0 < 0
  · rw [if_pos c2] at H
    have c2b0 : decide (a0 < 0) = true := decide_eq_true c2
    clear c2
    replace H := Option.bind_eq_some_iff.mp H
    obtain ⟨t101, A30, H⟩ := H
    replace H : (if 1 + t101.size ≤ 9223372036854775807 then (some ((⟨#[45]⟩ : ByteArray) ++ t101)) else (none)) = some r := H
    have A3 := Aside0.mk A30
    clear A30
    by_cases c4 : 1 + t101.size ≤ 9223372036854775807
    · rw [if_pos c4] at H
      have c4b0 := eq_true c4
      have c4b1 : decide (1 + t101.size ≤ 9223372036854775807) = true := decide_eq_true c4
      try have c4b2 : (9223372036854775807 < 1 + t101.size) = False := eq_false (Nat.not_lt.2 c4)
      obtain rfl := Option.some.inj H
      go_enter Try.func122, Try.ntmps122
      go_wp2_with (first | ((with_reducible refine gate_callee (f := 131) rfl ?_); refine goesL_ (some 10) rfl rfl Try.func131 (by kernel_rfl) rfl #[.int .u64 (IntKind.u64.wrap ((IntKind.u64.wrap (wrap64 (-(wrap64 (a0 + 1))))) + 1))] rfl (by (try simp only [List.map_toArray, List.map_cons, List.map_nil]); first | done | rfl | (simp only [List.length_drop, List.length_take]; rfl)) ?_; (with_reducible refine (impl_digits.calls k (IntKind.u64.wrap ((IntKind.u64.wrap (wrap64 (-(wrap64 (a0 + 1))))) + 1)) t101 _ A3.out).mono ?_); rintro e w5 ⟨rfl, hb⟩; refine ⟨_, rfl, ?_⟩; have n0_ := Aside0.mk (below_step (by repeat (first | (with_reducible first | exact HB.out | apply below_alloc | apply pw_below_drewN | apply below_drew1) | exact HB.out)) hb); clear HB; have HB := n0_; clear n0_; (try clear hb); (try clear hb2); (try clear hk); (try clear hi)))
      go_ret
      exact ⟨by first | rfl | (simp [errW_none, errW_some] <;> rfl) | (simp [*, errW_none, errW_some] <;> rfl), by repeat (first | (with_reducible first | exact HB.out | apply below_alloc | apply pw_below_drewN | apply below_drew1) | exact HB.out)⟩
    · rw [if_neg c4] at H
      exact absurd H (by simp)
  · rw [if_neg c2] at H
    have c2b0 : decide (a0 < 0) = false := decide_eq_false c2
    clear c2
    replace H := Option.bind_eq_some_iff.mp H
    obtain ⟨t102, A60, H⟩ := H
    replace H : (some t102) = some r := H
    have A6 := Aside0.mk A60
    clear A60
    obtain rfl := Option.some.inj H
    go_enter Try.func122, Try.ntmps122
    go_wp2_with (first | ((with_reducible refine gate_callee (f := 131) rfl ?_); refine goesL_ (some 14) rfl rfl Try.func131 (by kernel_rfl) rfl #[.int .u64 (IntKind.u64.wrap (a0))] rfl (by (try simp only [List.map_toArray, List.map_cons, List.map_nil]); first | done | rfl | (simp only [List.length_drop, List.length_take]; rfl)) ?_; (with_reducible refine (impl_digits.calls k (IntKind.u64.wrap (a0)) t102 _ A6.out).mono ?_); rintro e w7 ⟨rfl, hb⟩; refine ⟨_, rfl, ?_⟩; have n0_ := Aside0.mk (below_step (by repeat (first | (with_reducible first | exact HB.out | apply below_alloc | apply pw_below_drewN | apply below_drew1) | exact HB.out)) hb); clear HB; have HB := n0_; clear n0_; (try clear hb); (try clear hb2); (try clear hk); (try clear hi)))
    go_ret
    exact ⟨by first | rfl | (simp [errW_none, errW_some] <;> rfl) | (simp [*, errW_none, errW_some] <;> rfl), by repeat (first | (with_reducible first | exact HB.out | apply below_alloc | apply pw_below_drewN | apply below_drew1) | exact HB.out)⟩
end Go.Proofs.Ytlpfmhikahlcoaa.G
namespace Go.Proofs.Ytlpfmhikahlcoaa.G
open Go.RowKit Go.Proofs.YtlpfmhikahlcoaaW.PrintWords Go.Proofs.YtlpfmhikahlcoaaW.PrintLast Go.Proofs.YtlpfmhikahlcoaaW.PrintMore
attribute [local go_sem] max2_int min2_int max_two min_two max_three min_three max_four min_four   -- for this text's walks alone
set_option linter.unusedVariables false
set_option linter.unusedSimpArgs false
def impl_Table_key.f (k : Nat) (a0_0 : Int) (a0_1 : ByteArray) : Option (ByteArray) := (impl_decimal.f k a0_0).bind fun t102 => (if t102.size + 1 ≤ 9223372036854775807 then (if t102.size + 1 + a0_1.size ≤ 9223372036854775807 then (some ((t102 ++ (⟨#[58]⟩ : ByteArray)) ++ a0_1)) else (none)) else (none))
def impl_Table_key.T1 : Bool × List (List Nat × List Nat) := (true, [([], []), ([0], [0]), ([1], [1]), ([2], [2]), ([], []), ([4], [4]), ([3, 5], [3, 5]), ([6, 2, 0, 1, 2, 3, 4, 5, 6], [6])])
def impl_Table_key.B1 : List Nat := [0, 1, 3, 7, 0, 16, 63, 127]
theorem impl_Table_key.tab1 : rtab .any (opsOf Try.f129 1) = impl_Table_key.T1 := by kernel_rfl
theorem impl_Table_key.bits1 : waitsOk impl_Table_key.T1.2 impl_Table_key.B1 = true := by kernel_rfl
set_option maxHeartbeats 8000000 in
set_option maxRecDepth 100000 in
theorem impl_Table_key.calls (k : Nat) (a0_0 : Int) (a0_1 : ByteArray) (r : ByteArray) (w : World) (h : impl_Table_key.f k a0_0 a0_1 = some r) :
    Calls Try.prog 129 #[.agg #[.int .i64 a0_0, .string a0_1]] w fun e w' => e = .returned (.string r) ∧ Below w.heap.size w w' := by
  have hu29 := Try.underlying29
  have HB := Aside0.mk (Below.refl w.heap.size w)
  have H : ((impl_decimal.f k a0_0).bind fun t102 => (if t102.size + 1 ≤ 9223372036854775807 then (if t102.size + 1 + a0_1.size ≤ 9223372036854775807 then (some ((t102 ++ (⟨#[58]⟩ : ByteArray)) ++ a0_1)) else (none)) else (none))) = some r := h
  clear h
  replace H := Option.bind_eq_some_iff.mp H
  obtain ⟨t102, A20, H⟩ := H
  replace H : (if t102.size + 1 ≤ 9223372036854775807 then (if t102.size + 1 + a0_1.size ≤ 9223372036854775807 then (some ((t102 ++ (⟨#[58]⟩ : ByteArray)) ++ a0_1)) else (none)) else (none)) = some r := H
  have A2 := Aside0.mk A20
  clear A20
  by_cases c3 : t102.size + 1 ≤ 9223372036854775807
  · rw [if_pos c3] at H
    have c3b0 := eq_true c3
    have c3b1 : decide (t102.size + 1 ≤ 9223372036854775807) = true := decide_eq_true c3
    try have c3b2 : (9223372036854775807 < t102.size + 1) = False := eq_false (Nat.not_lt.2 c3)
    by_cases c4 : t102.size + 1 + a0_1.size ≤ 9223372036854775807
    · rw [if_pos c4] at H
      have c4b0 := eq_true c4
      have c4b1 : decide (t102.size + 1 + a0_1.size ≤ 9223372036854775807) = true := decide_eq_true c4
      try have c4b2 : (9223372036854775807 < t102.size + 1 + a0_1.size) = False := eq_false (Nat.not_lt.2 c4)
      obtain rfl := Option.some.inj H
      go_enter Try.func129, Try.ntmps129
      try go_wp2_with (first | ((with_reducible refine gate_dst (N := 1) rfl ?_); refine box_event ?hg (N := 1) ?hd (cs := #[.int .i64 a0_0, .string a0_1]) (t := 29) ?hr ?_; (case hd => rfl); (case hg => rfl); (case hr => first | (go_simp; done) | (go_simp; rfl)); intro gb101 hg w5 hbox hb; have n0_ := Aside0.mk (below_step (by repeat (first | (with_reducible first | exact HB.out | apply below_alloc | apply pw_below_drewN | apply below_drew1) | exact HB.out)) hb); have n1_ := Aside0.mk (hbox); have n2_ := Aside0.mk ((by rw [hg]; exact (below_size (by repeat (first | (with_reducible first | exact HB.out | apply below_alloc | apply pw_below_drewN | apply below_drew1) | exact HB.out))) : w.heap.size ≤ gb101)); have n3_ := Aside0.mk ((by rw [hg]; exact (below_size (by repeat (first | (with_reducible first | exact HB.out | apply below_alloc | apply pw_below_drewN | apply below_drew1) | exact HB.out))) : w.heap.size ≤ gb101)); clear HB; have HB := n0_; have BK101 := n1_; have GW101 := n2_; have GE101 := n3_; clear n0_ n1_ n2_ n3_; clear hb hbox hg))
      have n0_ := Aside0.mk (blk_drew BK101.out)
      have n1_ := Aside0.mk (below_drew1 HB.out)
      clear BK101
      clear HB
      have BK101 := n0_
      have HB := n1_
      clear n0_ n1_
      refine start_ (n := 8) (S := fun w' => w'.cell? ⟨gb101, 0, none⟩ = some (.int .i64 a0_0) ∧ w'.cell? ⟨gb101, 1, none⟩ = some (.string a0_1)) (ds := []) #[false, false, false, false, false, false, false, false] (by kernel_rfl) rfl rfl ⟨(blk_cell BK101.out 0).trans rfl, (blk_cell BK101.out 1).trans rfl⟩ (fun hHeld => ?_); refine with_tabW impl_Table_key.tab1 impl_Table_key.bits1 (fun HT_ HW_ => ?_)
      generalize w5.drew = w6 at BK101 HB hHeld ⊢
      refine pure_ (i := 0) (N := some 3) (v := ?_) (a' := ?_) #[true, false, false, false, false, false, false, false] rfl rfl (any_of HT_.out (by kernel_rfl)) (fun _ _ _ h => h) (Or.inl ⟨by rfl, ?_⟩) ?_ ?_
      rotate_left
      · intro w'
        go_simp
        with_reducible rfl
      rotate_left
      · simp only [Act.put, List.setIfInBounds_toArray, List.set_cons_zero, List.set_cons_succ, i64_w, i32_w]
        rfl
      refine pure_ (i := 4) (N := some 7) (v := ?_) (a' := ?_) #[true, false, false, false, true, false, false, false] rfl rfl (any_of HT_.out (by kernel_rfl)) (fun _ _ _ h => h) (Or.inl ⟨by rfl, ?_⟩) ?_ ?_
      rotate_left
      · intro w'
        go_simp
        with_reducible rfl
      rotate_left
      · simp only [Act.put, List.setIfInBounds_toArray, List.set_cons_zero, List.set_cons_succ, i64_w, i32_w]
        rfl
      refine take_ (i := 1) (N := some 4) (v := ?_) (a' := ?_) #[true, true, false, false, true, false, false, false] rfl rfl (take_ofW HT_.out HW_.out (by kernel_rfl)) (fun _ _ _ h => h) (Or.inl ⟨by rfl, ?_⟩) hHeld ?_ ?_
      rotate_left
      · rintro w' ⟨s0, s1⟩
        go_simp
        with_reducible rfl
      rotate_left
      · simp only [Act.put, List.setIfInBounds_toArray, List.set_cons_zero, List.set_cons_succ, i64_w, i32_w]
        rfl
      refine take_ (i := 5) (N := some 8) (v := ?_) (a' := ?_) #[true, true, false, false, true, true, false, false] rfl rfl (take_ofW HT_.out HW_.out (by kernel_rfl)) (fun _ _ _ h => h) (Or.inl ⟨by rfl, ?_⟩) hHeld ?_ ?_
      rotate_left
      · rintro w' ⟨s0, s1⟩
        go_simp
        with_reducible rfl
      rotate_left
      · simp only [Act.put, List.setIfInBounds_toArray, List.set_cons_zero, List.set_cons_succ, i64_w, i32_w]
        rfl
      refine one_ (i := 2) (N := some 5) #[true, true, true, false, true, true, false, false] rfl rfl (one_of HT_.out (by kernel_rfl)) (by decide) (fun K hK => ?_)
      refine goes_ Try.func122 (by kernel_rfl) rfl #[.int .i64 a0_0] (by rfl) rfl rfl (by (try simp only [List.map_toArray, List.map_cons, List.map_nil]); first | done | rfl | (simp only [List.length_drop, List.length_take]; rfl)) ?_
      with_reducible refine (impl_decimal.calls k a0_0 t102 _ A2.out).mono ?_
      rintro e w7 ⟨rfl, hb⟩
      refine ⟨_, rfl, ?_⟩
      have n0_ := Aside0.mk (blk_below (g := gb101) (o := .cells #[.int .i64 a0_0, .string a0_1] 29 (0, 0)) (by (with_reducible repeat (first | refine blk_drewN ?_ _ | refine blk_drew ?_ | refine blk_alloc ?_ _)); exact BK101.out) hb)
      have n1_ := Aside0.mk (below_step (by repeat (first | (with_reducible first | exact HB.out | apply below_alloc | apply pw_below_drewN | apply below_drew1 | refine below_set ?_ GE101.out) | exact HB.out)) hb)
      clear BK101
      clear HB
      have BK101 := n0_
      have HB := n1_
      clear n0_ n1_
      (try clear hb)
      (try clear hb2)
      (try clear hk)
      (try clear hi)
      refine hK.out _ _ ⟨(blk_cell BK101.out 0).trans rfl, (blk_cell BK101.out 1).trans rfl⟩ (fun hHeld => ?_)
      clear hK K
      refine norm_ (a' := ?_) ?_ ?_
      rotate_left
      · show Act.put _ (some 5) _ = _
        simp only [Act.put, List.setIfInBounds_toArray, List.set_cons_zero, List.set_cons_succ, i64_w, i32_w]
        rfl
      refine pure_ (i := 3) (N := some 6) (v := ?_) (a' := ?_) #[true, true, true, true, true, true, false, false] rfl rfl (any_of HT_.out (by kernel_rfl)) (fun _ _ _ h => h) (Or.inl ⟨by rfl, ?_⟩) ?_ ?_
      rotate_left
      · intro w'
        go_simp
        with_reducible rfl
      rotate_left
      · simp only [Act.put, List.setIfInBounds_toArray, List.set_cons_zero, List.set_cons_succ, i64_w, i32_w]
        rfl
      refine pure_ (i := 6) (N := some 9) (v := ?_) (a' := ?_) #[true, true, true, true, true, true, true, false] rfl rfl (any_of HT_.out (by kernel_rfl)) (fun _ _ _ h => h) (Or.inl ⟨by rfl, ?_⟩) ?_ ?_
      rotate_left
      · intro w'
        go_simp
        with_reducible rfl
      rotate_left
      · simp only [Act.put, List.setIfInBounds_toArray, List.set_cons_zero, List.set_cons_succ, i64_w, i32_w]
        rfl
      refine pure_ (i := 7) (N := some 2) (v := ?_) (a' := ?_) #[true, true, true, true, true, true, true, true] rfl rfl (any_of HT_.out (by kernel_rfl)) (fun _ _ _ h => h) (Or.inl ⟨by rfl, ?_⟩) ?_ ?_
      rotate_left
      · intro w'
        go_simp
        with_reducible rfl
      rotate_left
      · simp only [Act.put, List.setIfInBounds_toArray, List.set_cons_zero, List.set_cons_succ, i64_w, i32_w]
        rfl
      refine done_ (done_of HT_.out (by kernel_rfl)) ?_
      try go_wp2
      go_ret
      exact ⟨by first | rfl | (simp [errW_none, errW_some] <;> rfl) | (simp [*, errW_none, errW_some] <;> rfl), by repeat (first | (with_reducible first | exact HB.out | apply below_alloc | apply pw_below_drewN | apply below_drew1 | refine below_set ?_ GE101.out) | exact HB.out)⟩
    · rw [if_neg c4] at H
      exact absurd H (by simp)
  · rw [if_neg c3] at H
    exact absurd H (by simp)
end Go.Proofs.Ytlpfmhikahlcoaa.G
namespace Go.Proofs.Ytlpfmhikahlcoaa.G
open Go.RowKit Go.Proofs.YtlpfmhikahlcoaaW.PrintWords Go.Proofs.YtlpfmhikahlcoaaW.PrintLast Go.Proofs.YtlpfmhikahlcoaaW.PrintMore
attribute [local go_sem] max2_int min2_int max_two min_two max_three min_three max_four min_four   -- for this text's walks alone
set_option linter.unusedVariables false
set_option linter.unusedSimpArgs false
def impl_bit.f (a0 : Bool) : Option (Int) := if a0 = true then (some 1) else (some 0)
set_option maxHeartbeats 8000000 in
set_option maxRecDepth 100000 in
theorem impl_bit.calls (a0 : Bool) (r : Int) (w : World) (h : impl_bit.f a0 = some r) :
    Calls Try.prog 99 #[.bool a0] w fun e w' => e = .returned (.int .i64 r) ∧ Drawn0 w w' := by
  have H : (if a0 = true then (some 1) else (some 0)) = some r := h
  clear h
  by_cases c2 : a0 = true
  · subst c2
    have H1 : (some 1) = some r := by rw [if_pos rfl] at H; exact H
    clear H
    have H := H1
    clear H1
    obtain rfl := Option.some.inj H
    go_enter Try.func99, Try.ntmps99
    go_wp2
    go_ret
    exact ⟨by first | rfl | (simp; done) | (simp [*]; done), by repeat (first | exact Drawn0.refl _ | apply Drawn0.step)⟩
  · replace c2 := Bool.eq_false_iff.mpr c2
    subst c2
    have H1 : (some 0) = some r := by rw [if_neg (show ¬ (false = true) by decide)] at H; exact H
    clear H
    have H := H1
    clear H1
    obtain rfl := Option.some.inj H
    go_enter Try.func99, Try.ntmps99
    go_wp2
    go_ret
    exact ⟨by first | rfl | (simp; done) | (simp [*]; done), by repeat (first | exact Drawn0.refl _ | apply Drawn0.step)⟩
end Go.Proofs.Ytlpfmhikahlcoaa.G
namespace Go.Proofs
open Go.Shelf
def Try.lays144_ren : Go.Shelf.Ren := ⟨fun | 144 => 125 | 143 => 132 | 219 => 136 | 217 => 137 | 225 => 138 | 224 => 139 | 267 => 140 | 266 => 141 | 314 => 142 | n => n, fun | 9 => 9 | 4 => 4 | 3 => 3 | 5 => 5 | 46 => 132 | 146 => 153 | 51 => 152 | n => n, fun | 1 => 0 | n => n⟩
theorem Try.lays144 : Go.Proofs.Lays.n144 Try.prog Try.lays144_ren := {
  mixed := by kernel_rfl
  f143 := Try.func132.trans (congrArg some (by kernel_rfl))
  f144 := Try.func125.trans (congrArg some (by kernel_rfl))
  f217 := Try.func137.trans (congrArg some (by kernel_rfl))
  f219 := Try.func136.trans (congrArg some (by kernel_rfl))
  f224 := Try.func139.trans (congrArg some (by kernel_rfl))
  f225 := Try.func138.trans (congrArg some (by kernel_rfl))
  f266 := Try.func141.trans (congrArg some (by kernel_rfl))
  f267 := Try.func140.trans (congrArg some (by kernel_rfl))
  f314 := Try.func142.trans (congrArg some (by kernel_rfl))
  t3 := Try.underlying3
  a3 := Try.isAgg3
  z3 := Try.sizeOf3
  v3 := Try.zeroValue3
  t4 := Try.underlying4
  a4 := Try.isAgg4
  z4 := Try.sizeOf4
  v4 := Try.zeroValue4
  t5 := Try.underlying5
  a5 := Try.isAgg5
  z5 := Try.sizeOf5
  v5 := Try.zeroValue5
  t9 := Try.underlying9
  a9 := Try.isAgg9
  z9 := Try.sizeOf9
  v9 := Try.zeroValue9
  t46 := Try.underlying132
  a46 := Try.isAgg132
  z46 := Try.sizeOf132
  v46 := Try.zeroValue132
  t51 := Try.underlying152
  a51 := Try.isAgg152
  z51 := Try.sizeOf152
  v51 := Try.zeroValue152
  t146 := Try.underlying153
  a146 := Try.isAgg153
  z146 := Try.sizeOf153
  v146 := Try.zeroValue153
  g1 := by kernel_rfl }
open Go.RowKit Go.Lib in
theorem Try.strings_Contains_one (s : ByteArray) (c : UInt8) (w : World) :
    Calls Try.prog 125 #[.string s, .string ⟨#[c]⟩] w fun e w' => e = .returned (.bool (decide (0 ≤ Lib.indexByte s.data.toList c))) ∧ w' = w := Any.strings_Contains_one Try.lays144 s c w
end Go.Proofs
namespace Go.Proofs.Ytlpfmhikahlcoaa.G
open Go.RowKit Go.Proofs.YtlpfmhikahlcoaaW.PrintWords Go.Proofs.YtlpfmhikahlcoaaW.PrintLast Go.Proofs.YtlpfmhikahlcoaaW.PrintMore
attribute [local go_sem] max2_int min2_int max_two min_two max_three min_three max_four min_four   -- for this text's walks alone
set_option linter.unusedVariables false
set_option linter.unusedSimpArgs false
def strings_Contains.f (a0 : ByteArray) (a1 : ByteArray) : Option Bool := match a1 with
  | ⟨⟨[c]⟩⟩ => some (a0.data.toList.contains c)
  | _ => none
theorem strings_Contains.calls (a0 : ByteArray) (a1 : ByteArray) (r : Bool) (w : World) (h : strings_Contains.f a0 a1 = some r) :
    Calls Try.prog 125 #[.string a0, .string a1] w fun e w' => e = .returned (.bool r) ∧ Drawn0 w w' := by
  unfold strings_Contains.f at h
  split at h
  · rename_i c
    obtain rfl := Option.some.inj h
    refine (Try.strings_Contains_one a0 c w).mono fun e w' hh => ?_
    obtain ⟨rfl, rfl⟩ := hh
    exact ⟨by rw [Go.Lib.contains_iff_indexByte], Drawn0.refl _⟩
  · cases h
end Go.Proofs.Ytlpfmhikahlcoaa.G
namespace Go.Proofs.Ytlpfmhikahlcoaa.G
open Go.RowKit Go.Proofs.YtlpfmhikahlcoaaW.PrintWords Go.Proofs.YtlpfmhikahlcoaaW.PrintLast Go.Proofs.YtlpfmhikahlcoaaW.PrintMore
attribute [local go_sem] max2_int min2_int max_two min_two max_three min_three max_four min_four   -- for this text's walks alone
set_option linter.unusedVariables false
set_option linter.unusedSimpArgs false
def impl_Table_known.f (a0_0 : Int) (a0_1 : ByteArray) : Option (Int) := (strings_Contains.f a0_1 (⟨#[49]⟩ : ByteArray)).bind fun t102 => (if t102 = true then ((strings_Contains.f a0_1 (⟨#[48]⟩ : ByteArray)).bind fun t103 => (if t103 = true then (some (-1)) else ((impl_bit.f t102).bind fun t104 => (some t104)))) else ((impl_bit.f t102).bind fun t105 => (some t105)))
set_option maxHeartbeats 8000000 in
set_option maxRecDepth 100000 in
theorem impl_Table_known.calls (a0_0 : Int) (a0_1 : ByteArray) (r : Int) (w : World) (h : impl_Table_known.f a0_0 a0_1 = some r) :
    Calls Try.prog 107 #[.agg #[.int .i64 a0_0, .string a0_1]] w fun e w' => e = .returned (.int .i64 r) ∧ Below w.heap.size w w' := by
  have hu29 := Try.underlying29
  have HB := Aside0.mk (Below.refl w.heap.size w)
  have H : ((strings_Contains.f a0_1 (⟨#[49]⟩ : ByteArray)).bind fun t102 => (if t102 = true then ((strings_Contains.f a0_1 (⟨#[48]⟩ : ByteArray)).bind fun t103 => (if t103 = true then (some (-1)) else ((impl_bit.f t102).bind fun t104 => (some t104)))) else ((impl_bit.f t102).bind fun t105 => (some t105)))) = some r := h
  clear h
  replace H := Option.bind_eq_some_iff.mp H
  obtain ⟨t102, A20, H⟩ := H
  replace H : (if t102 = true then ((strings_Contains.f a0_1 (⟨#[48]⟩ : ByteArray)).bind fun t103 => (if t103 = true then (some (-1)) else ((impl_bit.f t102).bind fun t104 => (some t104)))) else ((impl_bit.f t102).bind fun t105 => (some t105))) = some r := H
  have A2 := Aside0.mk A20
  clear A20
  by_cases c3 : t102 = true
  · subst c3
    have H1 : ((strings_Contains.f a0_1 (⟨#[48]⟩ : ByteArray)).bind fun t103 => (if t103 = true then (some (-1)) else ((impl_bit.f true).bind fun t104 => (some t104)))) = some r := by rw [if_pos rfl] at H; exact H
    clear H
    have H := H1
    clear H1
    replace H := Option.bind_eq_some_iff.mp H
    obtain ⟨t103, A40, H⟩ := H
    replace H : (if t103 = true then (some (-1)) else ((impl_bit.f true).bind fun t104 => (some t104))) = some r := H
    have A4 := Aside0.mk A40
    clear A40
    by_cases c5 : t103 = true
    · subst c5
      have H1 : (some (-1)) = some r := by rw [if_pos rfl] at H; exact H
      clear H
      have H := H1
      clear H1
      obtain rfl := Option.some.inj H
      go_enter Try.func107, Try.ntmps107
      go_wp2_with (first | ((with_reducible refine gate_dst (N := 1) rfl ?_); refine box_event ?hg (N := 1) ?hd (cs := #[.int .i64 a0_0, .string a0_1]) (t := 29) ?hr ?_; (case hd => rfl); (case hg => rfl); (case hr => first | (go_simp; done) | (go_simp; rfl)); intro gb101 hg w6 hbox hb; have n0_ := Aside0.mk (below_step (by repeat (first | (with_reducible first | exact HB.out | apply below_alloc | apply pw_below_drewN | apply below_drew1) | exact HB.out)) hb); have n1_ := Aside0.mk (hbox); have n2_ := Aside0.mk ((by rw [hg]; exact (below_size (by repeat (first | (with_reducible first | exact HB.out | apply below_alloc | apply pw_below_drewN | apply below_drew1) | exact HB.out))) : w.heap.size ≤ gb101)); have n3_ := Aside0.mk ((by rw [hg]; exact (below_size (by repeat (first | (with_reducible first | exact HB.out | apply below_alloc | apply pw_below_drewN | apply below_drew1) | exact HB.out))) : w.heap.size ≤ gb101)); clear HB; have HB := n0_; have BK101 := n1_; have GW101 := n2_; have GE101 := n3_; clear n0_ n1_ n2_ n3_; clear hb hbox hg; have hcz7_0 : w6.cell? ⟨gb101, 0, none⟩ = some (.int .i64 a0_0) := (blk_cell BK101.out 0).trans rfl; have hcz7_1 : w6.cell? ⟨gb101, 1, none⟩ = some (.string a0_1) := (blk_cell BK101.out 1).trans rfl; have hfz7_0 := blk_frozen BK101.out 0; have hfz7_1 := blk_frozen BK101.out 1) | ((with_reducible refine gate_callee (f := 125) rfl ?_); refine goesL_ (some 6) rfl rfl Try.func125 (by kernel_rfl) rfl #[.string a0_1, .string (⟨#[49]⟩ : ByteArray)] rfl (by (try simp only [List.map_toArray, List.map_cons, List.map_nil]); first | done | rfl | (simp only [List.length_drop, List.length_take]; rfl)) ?_; (with_reducible refine (strings_Contains.calls a0_1 (⟨#[49]⟩ : ByteArray) true _ A2.out).mono ?_); rintro e w' ⟨rfl, ⟨nd, rfl⟩⟩; refine ⟨_, rfl, ?_⟩) | (go_at_call 125; (try simp only [i64_w, i32_w]); (with_reducible refine (strings_Contains.calls a0_1 (⟨#[48]⟩ : ByteArray) true _ A4.out).mono ?_); rintro e w' ⟨rfl, ⟨nd, rfl⟩⟩))
      go_ret
      exact ⟨by first | rfl | (simp [errW_none, errW_some] <;> rfl) | (simp [*, errW_none, errW_some] <;> rfl), by repeat (first | (with_reducible first | exact HB.out | apply below_alloc | apply pw_below_drewN | apply below_drew1 | refine below_set ?_ GE101.out) | exact HB.out)⟩
    · replace c5 := Bool.eq_false_iff.mpr c5
      subst c5
      have H1 : ((impl_bit.f true).bind fun t104 => (some t104)) = some r := by rw [if_neg (show ¬ (false = true) by decide)] at H; exact H
      clear H
      have H := H1
      clear H1
      replace H := Option.bind_eq_some_iff.mp H
      obtain ⟨t104, A80, H⟩ := H
      replace H : (some t104) = some r := H
      have A8 := Aside0.mk A80
      clear A80
      obtain rfl := Option.some.inj H
      go_enter Try.func107, Try.ntmps107
      go_wp2_with (first | ((with_reducible refine gate_dst (N := 1) rfl ?_); refine box_event ?hg (N := 1) ?hd (cs := #[.int .i64 a0_0, .string a0_1]) (t := 29) ?hr ?_; (case hd => rfl); (case hg => rfl); (case hr => first | (go_simp; done) | (go_simp; rfl)); intro gb101 hg w9 hbox hb; have n0_ := Aside0.mk (below_step (by repeat (first | (with_reducible first | exact HB.out | apply below_alloc | apply pw_below_drewN | apply below_drew1) | exact HB.out)) hb); have n1_ := Aside0.mk (hbox); have n2_ := Aside0.mk ((by rw [hg]; exact (below_size (by repeat (first | (with_reducible first | exact HB.out | apply below_alloc | apply pw_below_drewN | apply below_drew1) | exact HB.out))) : w.heap.size ≤ gb101)); have n3_ := Aside0.mk ((by rw [hg]; exact (below_size (by repeat (first | (with_reducible first | exact HB.out | apply below_alloc | apply pw_below_drewN | apply below_drew1) | exact HB.out))) : w.heap.size ≤ gb101)); clear HB; have HB := n0_; have BK101 := n1_; have GW101 := n2_; have GE101 := n3_; clear n0_ n1_ n2_ n3_; clear hb hbox hg; have hcz10_0 : w9.cell? ⟨gb101, 0, none⟩ = some (.int .i64 a0_0) := (blk_cell BK101.out 0).trans rfl; have hcz10_1 : w9.cell? ⟨gb101, 1, none⟩ = some (.string a0_1) := (blk_cell BK101.out 1).trans rfl; have hfz10_0 := blk_frozen BK101.out 0; have hfz10_1 := blk_frozen BK101.out 1) | ((with_reducible refine gate_callee (f := 125) rfl ?_); refine goesL_ (some 6) rfl rfl Try.func125 (by kernel_rfl) rfl #[.string a0_1, .string (⟨#[49]⟩ : ByteArray)] rfl (by (try simp only [List.map_toArray, List.map_cons, List.map_nil]); first | done | rfl | (simp only [List.length_drop, List.length_take]; rfl)) ?_; (with_reducible refine (strings_Contains.calls a0_1 (⟨#[49]⟩ : ByteArray) true _ A2.out).mono ?_); rintro e w' ⟨rfl, ⟨nd, rfl⟩⟩; refine ⟨_, rfl, ?_⟩) | (go_at_call 125; (try simp only [i64_w, i32_w]); (with_reducible refine (strings_Contains.calls a0_1 (⟨#[48]⟩ : ByteArray) false _ A4.out).mono ?_); rintro e w' ⟨rfl, ⟨nd, rfl⟩⟩) | ((with_reducible refine gate_callee (f := 99) rfl ?_); refine goesL_ (some 14) rfl rfl Try.func99 (by kernel_rfl) rfl #[.bool true] rfl (by (try simp only [List.map_toArray, List.map_cons, List.map_nil]); first | done | rfl | (simp only [List.length_drop, List.length_take]; rfl)) ?_; (with_reducible refine (impl_bit.calls true t104 _ A8.out).mono ?_); rintro e w' ⟨rfl, ⟨nd, rfl⟩⟩; refine ⟨_, rfl, ?_⟩))
      go_ret
      exact ⟨by first | rfl | (simp [errW_none, errW_some] <;> rfl) | (simp [*, errW_none, errW_some] <;> rfl), by repeat (first | (with_reducible first | exact HB.out | apply below_alloc | apply pw_below_drewN | apply below_drew1 | refine below_set ?_ GE101.out) | exact HB.out)⟩
  · replace c3 := Bool.eq_false_iff.mpr c3
    subst c3
    have H1 : ((impl_bit.f false).bind fun t105 => (some t105)) = some r := by rw [if_neg (show ¬ (false = true) by decide)] at H; exact H
    clear H
    have H := H1
    clear H1
    replace H := Option.bind_eq_some_iff.mp H
    obtain ⟨t105, A110, H⟩ := H
    replace H : (some t105) = some r := H
    have A11 := Aside0.mk A110
    clear A110
    obtain rfl := Option.some.inj H
    go_enter Try.func107, Try.ntmps107
    go_wp2_with (first | ((with_reducible refine gate_dst (N := 1) rfl ?_); refine box_event ?hg (N := 1) ?hd (cs := #[.int .i64 a0_0, .string a0_1]) (t := 29) ?hr ?_; (case hd => rfl); (case hg => rfl); (case hr => first | (go_simp; done) | (go_simp; rfl)); intro gb101 hg w12 hbox hb; have n0_ := Aside0.mk (below_step (by repeat (first | (with_reducible first | exact HB.out | apply below_alloc | apply pw_below_drewN | apply below_drew1) | exact HB.out)) hb); have n1_ := Aside0.mk (hbox); have n2_ := Aside0.mk ((by rw [hg]; exact (below_size (by repeat (first | (with_reducible first | exact HB.out | apply below_alloc | apply pw_below_drewN | apply below_drew1) | exact HB.out))) : w.heap.size ≤ gb101)); have n3_ := Aside0.mk ((by rw [hg]; exact (below_size (by repeat (first | (with_reducible first | exact HB.out | apply below_alloc | apply pw_below_drewN | apply below_drew1) | exact HB.out))) : w.heap.size ≤ gb101)); clear HB; have HB := n0_; have BK101 := n1_; have GW101 := n2_; have GE101 := n3_; clear n0_ n1_ n2_ n3_; clear hb hbox hg; have hcz13_0 : w12.cell? ⟨gb101, 0, none⟩ = some (.int .i64 a0_0) := (blk_cell BK101.out 0).trans rfl; have hcz13_1 : w12.cell? ⟨gb101, 1, none⟩ = some (.string a0_1) := (blk_cell BK101.out 1).trans rfl; have hfz13_0 := blk_frozen BK101.out 0; have hfz13_1 := blk_frozen BK101.out 1) | ((with_reducible refine gate_callee (f := 125) rfl ?_); refine goesL_ (some 6) rfl rfl Try.func125 (by kernel_rfl) rfl #[.string a0_1, .string (⟨#[49]⟩ : ByteArray)] rfl (by (try simp only [List.map_toArray, List.map_cons, List.map_nil]); first | done | rfl | (simp only [List.length_drop, List.length_take]; rfl)) ?_; (with_reducible refine (strings_Contains.calls a0_1 (⟨#[49]⟩ : ByteArray) false _ A2.out).mono ?_); rintro e w' ⟨rfl, ⟨nd, rfl⟩⟩; refine ⟨_, rfl, ?_⟩) | ((with_reducible refine gate_callee (f := 99) rfl ?_); refine goesL_ (some 14) rfl rfl Try.func99 (by kernel_rfl) rfl #[.bool false] rfl (by (try simp only [List.map_toArray, List.map_cons, List.map_nil]); first | done | rfl | (simp only [List.length_drop, List.length_take]; rfl)) ?_; (with_reducible refine (impl_bit.calls false t105 _ A11.out).mono ?_); rintro e w' ⟨rfl, ⟨nd, rfl⟩⟩; refine ⟨_, rfl, ?_⟩))
    go_ret
    exact ⟨by first | rfl | (simp [errW_none, errW_some] <;> rfl) | (simp [*, errW_none, errW_some] <;> rfl), by repeat (first | (with_reducible first | exact HB.out | apply below_alloc | apply pw_below_drewN | apply below_drew1 | refine below_set ?_ GE101.out) | exact HB.out)⟩
end Go.Proofs.Ytlpfmhikahlcoaa.G
namespace Go.Proofs.Ytlpfmhikahlcoaa.G
open Go.RowKit Go.Proofs.YtlpfmhikahlcoaaW.PrintWords Go.Proofs.YtlpfmhikahlcoaaW.PrintLast Go.Proofs.YtlpfmhikahlcoaaW.PrintMore
attribute [local go_sem] max2_int min2_int max_two min_two max_three min_three max_four min_four   -- for this text's walks alone
set_option linter.unusedVariables false
set_option linter.unusedSimpArgs false
def impl_copyInts.f (l0 : List Int) : Option (List Int) := if ([] : List Int).length + l0.length < 17592186044416 then (some (([] : List Int) ++ l0)) else (none)
set_option maxHeartbeats 8000000 in
set_option maxRecDepth 100000 in
theorem impl_copyInts.calls (A0 : Option Addr) (c0 : Nat) (l0 : List Int) (r : List Int) (w : World) (hr0 : Kd.C (Kd.int .i64) w A0 l0.length l0) (hc0 : l0.length ≤ c0) (h : impl_copyInts.f l0 = some r) :
    Calls Try.prog 115 #[.slice A0 l0.length c0] w fun e w' => ∃ v0_ : Value, e = .returned (v0_) ∧ Kd.R (Kd.int .i64) 3 w' w.heap.size (fun _ => True) v0_ r ∧ Below w.heap.size w w' := by
  have HR0 := Aside0.mk hr0
  have HC0 := Aside0.mk hc0
  clear hr0 hc0
  have HB := Aside0.mk (Below.refl w.heap.size w)
  have H : (if ([] : List Int).length + l0.length < 17592186044416 then (some (([] : List Int) ++ l0)) else (none)) = some r := h
  clear h
  by_cases c2 : ([] : List Int).length + l0.length < 17592186044416
  · rw [if_pos c2] at H
    have LMc2 := Aside0.mk c2
    clear c2
    obtain ⟨y101, hy101⟩ : ∃ y_ : List Int, y_ = (([] : List Int) ++ l0) := ⟨_, rfl⟩
    replace H : (some y101) = some r := by first | (rw [hy101]; with_reducible exact H) | (have H2_ := (Option.bind_some _ _).symm.trans H; rw [hy101]; with_reducible exact H2_) | (have H2_ := (Option.bind_some _ _).symm.trans H; with_reducible exact H2_) | with_reducible exact H | (rw [hy101]; exact H) | exact H
    have Ny101 := Aside0.mk hy101
    clear hy101
    obtain rfl := Option.some.inj H
    go_enter Try.func115, Try.ntmps115
    go_wp2_with (first | ((with_reducible refine gate_builtin (b := .append) (xs := #[.const (.slice none 0 0), .tmp 3]) rfl ?_); at_builtin; refine Kd.R_append_rows (Kd.int .i64) (w0 := w) w.heap.size rfl (.const (.slice none 0 0)) (.tmp 3) 33 3 (.int .i64 0) 8 rfl Try.underlying33 info3 rfl (by decide) (by omega) (.slice none 0 0) ([] : List Int) l0 _ _ _ (fun _ => True) (fun _ => False) rfl rfl ?aO ?aR (fun _ _ h => h) (fun _ h => h.elim) ?aF ?aB ?aS ?aL ?_; (case aR => repeat (first | exact HR0.out | (with_reducible refine Kd.C_alloc ?_ _) | (with_reducible refine Kd.C_drewN ?_ _) | (with_reducible refine Kd.C_drew ?_))); (case aB => exact (by repeat (first | (with_reducible first | exact HB.out | apply below_alloc | apply pw_below_drewN | apply below_drew1) | exact HB.out))); (case aF => exact (fun _ _ => trivial)); (case aO => exact ((Kd.R_nil _ _ _ _ (fun _ => True)))); (case aS => exact (below_size (by repeat (first | (with_reducible first | exact HB.out | apply below_alloc | apply pw_below_drewN | apply below_drew1) | exact HB.out)))); (case aL => have := LMc2.out; omega); intro v102 w3 ho hb hg hat; rw [← Ny101.out] at ho; have n0_ := Aside0.mk (hb); have n1_ := Aside0.mk (ho); clear HB; have HB := n0_; have HO103 := n1_; clear n0_ n1_; clear ho hb hg hat))
    go_ret
    exact ⟨_, by first | rfl | (simp [errW_none, errW_some] <;> rfl) | (simp [*, errW_none, errW_some] <;> rfl), by (with_reducible repeat (first | apply Kd.R_alloc | apply Kd.R_drewN | apply Kd.R_drew)); exact HO103.out, by repeat (first | (with_reducible first | exact HB.out | apply below_alloc | apply pw_below_drewN | apply below_drew1) | exact HB.out)⟩
  · rw [if_neg c2] at H
    exact absurd H (by simp)
end Go.Proofs.Ytlpfmhikahlcoaa.G
