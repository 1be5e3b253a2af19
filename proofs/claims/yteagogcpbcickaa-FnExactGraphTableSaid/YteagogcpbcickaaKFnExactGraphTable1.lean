-- texts of this session, merged by a program of it (wip/gen/pack.py)
import Derived.Test.YteagogcpbcickaaProg
import Derived.Below
import Derived.Deep.Draws
import Derived.Deep.AppendLies
import Derived.Maps.AppendAt
import Derived.OwnWalk
import Derived.Laws.BytesArg
import Derived.Laws.MakeOwn
import Derived.Laws.OwnMore
import Derived.Deep.OwnRows
import Derived.Tactics
import Derived.Lib.ConvBytes
import Derived.Laws.Slices
import Derived.WalkKit
import Derived.KernelRfl
import Derived.RowKit3
import Derived.Deep.LoopGhost
import Derived.Deep.QuietTactic
import Derived.BigQuiet
import Derived.WideLaws
import Derived.Deep.DeepCutAuto
import Derived.Deep.CutBlock
import Derived.Deep.RegionHeld3
import Derived.Laws.Rows
import Derived.Lib.AppendStr
import Derived.ArgAppend
import Derived.Laws.IdiomCopy
import Derived.OrdersHeld
import Derived.Laws.BitsLemmas
import Derived.RowKit
import Derived.Test.YteagogcpbcickaaWWords
import Derived.Test.YteagogcpbcickaaWLast
import Derived.Test.YteagogcpbcickaaWTab
import Derived.Test.YteagogcpbcickaaWFour
import Derived.Test.YteagogcpbcickaaWQPut
import Derived.Test.YteagogcpbcickaaWApart
import Derived.Test.YteagogcpbcickaaWArr
import Derived.Test.YteagogcpbcickaaWZeros
import Derived.Test.YteagogcpbcickaaWFoot
import Derived.Test.YteagogcpbcickaaWKept
import Derived.Test.YteagogcpbcickaaWShare
import Derived.Test.YteagogcpbcickaaWN
import Derived.Test.YteagogcpbcickaaWFootNe
import Derived.Test.YteagogcpbcickaaWAt
import Derived.Test.YteagogcpbcickaaWEqStruct
import Derived.Test.YteagogcpbcickaaWRepsOne
import Derived.Test.YteagogcpbcickaaWInv
import Derived.Test.YteagogcpbcickaaWInvWords
import Derived.Test.YteagogcpbcickaaWGuard
import Derived.Test.YteagogcpbcickaaWNEv
import Derived.Test.YteagogcpbcickaaWMore
import Derived.Maps.OwnOps
import Derived.Maps.OwnSet
import Derived.Maps.Views
import Derived.DeepKeys4
import Derived.StringKeys
-- written by a program of this session (wip/gen/gen.py); Lean checks it
namespace Go.Proofs.Yteagogcpbcickaa.G
open Go.RowKit Go.Proofs.YteagogcpbcickaaW.PrintWords Go.Proofs.YteagogcpbcickaaW.PrintLast Go.Proofs.YteagogcpbcickaaW.PrintMore
attribute [local go_sem] max2_int min2_int max_two min_two max_three min_three max_four min_four   -- for this text's walks alone
set_option linter.unusedVariables false
set_option linter.unusedSimpArgs false

def errW : Option Int → Value
  | none => .nilIface
  | some c => .iface 0 (.int .i64 c)
theorem errW_none : errW none = .nilIface := rfl
theorem errW_some (c : Int) : errW (some c) = .iface 0 (.int .i64 c) := rfl

theorem info3 : (Try.prog.info? 3).map (fun i => (i.zero, i.size, i.bytes)) = some (some (.int .i64 0), 1, 8) := by kernel_rfl
theorem info4 : (Try.prog.info? 4).map (fun i => (i.zero, i.size, i.bytes)) = some (some (.bool false), 1, 1) := by kernel_rfl
theorem info5 : (Try.prog.info? 5).map (fun i => (i.zero, i.size, i.bytes)) = some (some (.int .u8 0), 1, 1) := by kernel_rfl
theorem info79 : (Try.prog.info? 79).map (fun i => (i.zero, i.size, i.bytes)) = some (some (.agg #[(.int .i64 0), (.int .i64 0)]), 2, 16) := by kernel_rfl
-- the values' own types
/-! #### struct type 116 -/
structure S116 where
  f0 : Int
  f1 : Int
def z116 : S116 := ⟨(0 : Int), (0 : Int)⟩
def k116 : Kd S116 := Kd.iso (Kd.pair (Kd.int .i64) (Kd.int .i64)) (fun x : S116 => (x.f0, x.f1))
theorem k116_open {w : World} {x : S116} {cs : List Value} (h : k116.K w x cs) : cs = [.int .i64 x.f0, .int .i64 x.f1] := by
  obtain ⟨_, _, rfl, rfl, rfl⟩ := h
  exact rfl
theorem k116_openM {w : World} {base : Nat} {ok : Nat → Prop} {x : S116} {cs : List Value} (h : k116.M w base ok x cs) : cs = [.int .i64 x.f0, .int .i64 x.f1] := by
  obtain ⟨_, _, rfl, rfl, rfl⟩ := h
  exact rfl
theorem k116_mk (w : World) (x : S116)  : k116.K w x [.int .i64 x.f0, .int .i64 x.f1] := ⟨[.int .i64 x.f0], [.int .i64 x.f1], rfl, rfl, rfl⟩
theorem k116_mkM (w : World) (base : Nat) (ok : Nat → Prop) (x : S116)  : k116.M w base ok x [.int .i64 x.f0, .int .i64 x.f1] := ⟨[.int .i64 x.f0], [.int .i64 x.f1], rfl, rfl, rfl⟩
def rd_T116 (xs : List S116) (i : Int) : S116 := xs.getD i.toNat z116
theorem at_T116 {w : World} {A : Option Addr} {n : Nat} {xs : List S116} (h : Kd.C k116 w A n xs) (i : Int) (h0 : 0 ≤ i) (h1 : i < n) : ∃ ad , A = some ad ∧ w.cell? (ad.add (i.toNat * 2)) = some (.int .i64 (rd_T116 xs i).f0) ∧ w.cell? ⟨(ad.add (i.toNat * 2)).block, (ad.add (i.toNat * 2)).off + 1, none⟩ = some (.int .i64 (rd_T116 xs i).f1) := by
  obtain ⟨ad, c, e, _, hK, hc0⟩ := Kd.C_get h z116 i h0 h1
  have hc : ∀ j u, c[j]? = some u → w.cell? (ad.add (i.toNat * 2 + j)) = some u := hc0
  obtain rfl := k116_open hK
  exact ⟨ad, e, hc 0 _ rfl, by rw [← add_field _ _ 1 (by omega)]; exact hc 1 _ rfl⟩

/-! #### struct type 79 -/
structure S79 where
  f0 : Int
  f1 : Int
def z79 : S79 := ⟨(0 : Int), (0 : Int)⟩
def k79 : Kd S79 := Kd.iso (Kd.pair (Kd.int .i64) (Kd.int .i64)) (fun x : S79 => (x.f0, x.f1))
theorem k79_open {w : World} {x : S79} {cs : List Value} (h : k79.K w x cs) : cs = [.int .i64 x.f0, .int .i64 x.f1] := by
  obtain ⟨_, _, rfl, rfl, rfl⟩ := h
  exact rfl
theorem k79_openM {w : World} {base : Nat} {ok : Nat → Prop} {x : S79} {cs : List Value} (h : k79.M w base ok x cs) : cs = [.int .i64 x.f0, .int .i64 x.f1] := by
  obtain ⟨_, _, rfl, rfl, rfl⟩ := h
  exact rfl
theorem k79_mk (w : World) (x : S79)  : k79.K w x [.int .i64 x.f0, .int .i64 x.f1] := ⟨[.int .i64 x.f0], [.int .i64 x.f1], rfl, rfl, rfl⟩
theorem k79_mkM (w : World) (base : Nat) (ok : Nat → Prop) (x : S79)  : k79.M w base ok x [.int .i64 x.f0, .int .i64 x.f1] := ⟨[.int .i64 x.f0], [.int .i64 x.f1], rfl, rfl, rfl⟩
def rd_T79 (xs : List S79) (i : Int) : S79 := xs.getD i.toNat z79
theorem at_T79 {w : World} {A : Option Addr} {n : Nat} {xs : List S79} (h : Kd.C k79 w A n xs) (i : Int) (h0 : 0 ≤ i) (h1 : i < n) : ∃ ad , A = some ad ∧ w.cell? (ad.add (i.toNat * 2)) = some (.int .i64 (rd_T79 xs i).f0) ∧ w.cell? ⟨(ad.add (i.toNat * 2)).block, (ad.add (i.toNat * 2)).off + 1, none⟩ = some (.int .i64 (rd_T79 xs i).f1) := by
  obtain ⟨ad, c, e, _, hK, hc0⟩ := Kd.C_get h z79 i h0 h1
  have hc : ∀ j u, c[j]? = some u → w.cell? (ad.add (i.toNat * 2 + j)) = some u := hc0
  obtain rfl := k79_open hK
  exact ⟨ad, e, hc 0 _ rfl, by rw [← add_field _ _ 1 (by omega)]; exact hc 1 _ rfl⟩

def rd_L3 (xs : List (List S79)) (i : Int) : (List S79) := xs.getD i.toNat ([] : List S79)
theorem at_L3 {w : World} {A : Option Addr} {n : Nat} {xs : List (List S79)} (h : Kd.C (Kd.slice 79 k79) w A n xs) (i : Int) (h0 : 0 ≤ i) (h1 : i < n) : ∃ ad A0 c0, A = some ad ∧ w.cell? (ad.add i.toNat) = some (.slice A0 (rd_L3 xs i).length c0) ∧ (rd_L3 xs i).length ≤ c0 ∧ k79.C w A0 (rd_L3 xs i).length (rd_L3 xs i) := by
  obtain ⟨ad, c, e, _, hK, hc0⟩ := Kd.C_get h ([] : List S79) i h0 h1
  have hc : ∀ j u, c[j]? = some u → w.cell? (ad.add (i.toNat * 1 + j)) = some u := hc0
  obtain ⟨A0, c0, rfl, l0, g0⟩ := hK
  exact ⟨ad, A0, c0, e, by have hq := hc 0 _ rfl; rwa [Nat.mul_one, Nat.add_zero] at hq, l0, g0⟩

/-! #### struct type 29 -/
structure S29 where
  f0 : Int
  f1 : (List S79)
def z29 : S29 := ⟨(0 : Int), ([] : List S79)⟩
def k29 : Kd S29 := Kd.iso (Kd.pair (Kd.int .i64) (Kd.slice 79 k79)) (fun x : S29 => (x.f0, x.f1))
theorem k29_open {w : World} {x : S29} {cs : List Value} (h : k29.K w x cs) : ∃ A1 c1, cs = [.int .i64 x.f0, .slice A1 x.f1.length c1] ∧ x.f1.length ≤ c1 ∧ k79.C w A1 x.f1.length x.f1 := by
  obtain ⟨_, _, rfl, rfl, ⟨A1, c1, rfl, l1, g1⟩⟩ := h
  exact ⟨A1, c1, rfl, l1, g1⟩
theorem k29_openM {w : World} {base : Nat} {ok : Nat → Prop} {x : S29} {cs : List Value} (h : k29.M w base ok x cs) : ∃ v1, cs = [.int .i64 x.f0, v1] ∧ k79.R 79 w base ok v1 x.f1 := by
  obtain ⟨_, _, rfl, rfl, ⟨v1, rfl, g1⟩⟩ := h
  exact ⟨v1, rfl, g1⟩
theorem k29_mk (w : World) (x : S29) {A1 : Option Addr} {c1 : Nat} (l1 : x.f1.length ≤ c1) (g1 : k79.C w A1 x.f1.length x.f1) : k29.K w x [.int .i64 x.f0, .slice A1 x.f1.length c1] := ⟨[.int .i64 x.f0], [.slice A1 x.f1.length c1], rfl, rfl, ⟨A1, c1, rfl, l1, g1⟩⟩
theorem k29_mkM (w : World) (base : Nat) (ok : Nat → Prop) (x : S29) {v1 : Value} (g1 : k79.R 79 w base ok v1 x.f1) : k29.M w base ok x [.int .i64 x.f0, v1] := ⟨[.int .i64 x.f0], [v1], rfl, rfl, ⟨v1, rfl, g1⟩⟩
def rd_T29 (xs : List S29) (i : Int) : S29 := xs.getD i.toNat z29
theorem at_T29 {w : World} {A : Option Addr} {n : Nat} {xs : List S29} (h : Kd.C k29 w A n xs) (i : Int) (h0 : 0 ≤ i) (h1 : i < n) : ∃ ad A1 c1, A = some ad ∧ w.cell? (ad.add (i.toNat * 2)) = some (.int .i64 (rd_T29 xs i).f0) ∧ w.cell? ⟨(ad.add (i.toNat * 2)).block, (ad.add (i.toNat * 2)).off + 1, none⟩ = some (.slice A1 (rd_T29 xs i).f1.length c1) ∧ (rd_T29 xs i).f1.length ≤ c1 ∧ k79.C w A1 (rd_T29 xs i).f1.length (rd_T29 xs i).f1 := by
  obtain ⟨ad, c, e, _, hK, hc0⟩ := Kd.C_get h z29 i h0 h1
  have hc : ∀ j u, c[j]? = some u → w.cell? (ad.add (i.toNat * 2 + j)) = some u := hc0
  obtain ⟨A1, c1, rfl, l1, g1⟩ := k29_open hK
  exact ⟨ad, A1, c1, e, hc 0 _ rfl, by rw [← add_field _ _ 1 (by omega)]; exact hc 1 _ rfl, l1, g1⟩

end Go.Proofs.Yteagogcpbcickaa.G
/- A map of the call's own, told by the list of what was put into it. Conditions: each lemma's own hypotheses. -/
set_option linter.unusedSimpArgs false
set_option linter.unusedVariables false
namespace Go.Proofs.Yteagogcpbcickaa.Mp
open Go.RowKit Go.Maps Go.ChangeMaps
set_option linter.unusedSectionVars false

section
variable {κ : Type} [DecidableEq κ]
/-- What was put last at a key, or 0. -/
def mget : List (κ × Int) → κ → Int
  | [], _ => 0
  | p :: r, x => if p.1 = x then p.2 else mget r x
/-- Was anything put at a key? -/
def mhas : List (κ × Int) → κ → Bool
  | [], _ => false
  | p :: r, x => if p.1 = x then true else mhas r x
end

section
variable {P : Program} {k e t : TypeId} {κ : Type} [DecidableEq κ]
/-- How keys are written as values, and which are keys. -/
structure Codec (P : Program) (k : TypeId) (enc : κ → Value) (ok : κ → Prop) : Prop where
  keyed : Keyed P k
  some_ : ∀ x, ok x → (keyOf P k (enc x)).isSome = true
  inj : ∀ x y, enc x = enc y → x = y
variable {enc : κ → Value} {ok : κ → Prop}
def litOf (P : Program) (k : TypeId) (enc : κ → Value) (x : κ) : Lit := (keyOf P k (enc x)).getD (.bool false)
theorem Codec.key (C : Codec P k enc ok) {x : κ} (h : ok x) : keyOf P k (enc x) = some (litOf P k enc x) := by
  have := C.some_ x h
  unfold litOf
  cases h' : keyOf P k (enc x) with
  | none => rw [h'] at this; cases this
  | some l => rfl
theorem Codec.ne (C : Codec P k enc ok) {x y : κ} (hx : ok x) (hy : ok y) (h : x ≠ y) : litOf P k enc x ≠ litOf P k enc y := fun he =>
  h (C.inj _ _ (C.keyed.inj (C.key hx) (he ▸ C.key hy)))
/-- The datum that the map reads as. -/
def datum (P : Program) (k : TypeId) (enc : κ → Value) : List (κ × Int) → DataW Unit
  | [] => .map []
  | p :: r => (datum P k enc r).put (litOf P k enc p.1) (.lit (.int .i64 p.2))
theorem datum_isMap : ∀ m : List (κ × Int), Maps.IsMap (datum P k enc m)
  | [] => Maps.isMap_empty
  | p :: r => (datum_isMap r).put _ _
theorem datum_at (C : Codec P k enc ok) {x : κ} (hx : ok x) : ∀ m : List (κ × Int), (∀ p ∈ m, ok p.1) → (datum P k enc m).atKey (litOf P k enc x) (.lit (.int .i64 0)) = .lit (.int .i64 (mget m x)) := by
  intro m
  induction m with
  | nil => intro _; rfl
  | cons p r ih =>
    intro h
    have hp := h p (by simp)
    unfold datum mget
    by_cases he : p.1 = x
    · rw [if_pos he, he]
      exact Maps.atKey_put_same (datum_isMap r) (C.keyed.key (C.key hx)) _ _
    · rw [if_neg he, Maps.atKey_put_other (C.ne hx hp (fun h => he h.symm))]
      exact ih fun q hq => h q (by simp [hq])
theorem datum_has (C : Codec P k enc ok) {x : κ} (hx : ok x) : ∀ m : List (κ × Int), (∀ p ∈ m, ok p.1) → Maps.has (datum P k enc m) (litOf P k enc x) = mhas m x := by
  intro m
  induction m with
  | nil => intro _; rfl
  | cons p r ih =>
    intro h
    have hp := h p (by simp)
    unfold datum mhas
    by_cases he : p.1 = x
    · rw [if_pos he, he]
      exact Maps.has_put_same (datum_isMap r) (C.keyed.key (C.key hx)) _
    · rw [if_neg he, Maps.has_put_other (C.ne hx hp (fun h => he h.symm))]
      exact ih fun q hq => h q (by simp [hq])
/-- Block b of w is a map that holds what the list tells. -/
structure IsMp (P : Program) (k e : TypeId) (enc : κ → Value) (ok : κ → Prop) (w : World) (b : Nat) (m : List (κ × Int)) : Prop where
  own : w.ownsMap P k (plainElem P e) b m.length (datum P k enc m)
  oks : ∀ p ∈ m, ok p.1
variable {w : World} {b : Nat} {m : List (κ × Int)}
theorem IsMp.made (P : Program) (k e : TypeId) (enc : κ → Value) (ok : κ → Prop) (w : World) : IsMp P k e enc ok (w.alloc (.map #[] 0)) w.heap.size ([] : List (κ × Int)) :=
  ⟨World.ownsMap_made _ _ _ _, fun p hp => by cases hp⟩
theorem IsMp.kept {w' : World} {row : Option Nat} (h : IsMp P k e enc ok w b m) (hg : w.grownBy w' row) (hne : some b ≠ row) : IsMp P k e enc ok w' b m := ⟨h.own.kept hg hne, h.oks⟩
theorem IsMp.lt (h : IsMp P k e enc ok w b m) : b < w.heap.size := h.own.lt
theorem IsMp.alloc (h : IsMp P k e enc ok w b m) (o : Obj) : IsMp P k e enc ok (w.alloc o) b m := ⟨h.own.alloc o, h.oks⟩
theorem IsMp.drew (h : IsMp P k e enc ok w b m) : IsMp P k e enc ok w.drew b m := ⟨h.own.drew, h.oks⟩
theorem IsMp.block {w' : World} (h : IsMp P k e enc ok w b m) (hb : w'.heap[b]? = w.heap[b]?) : IsMp P k e enc ok w' b m := by
  obtain ⟨⟨es, clock, h1, h2⟩, h3⟩ := h
  exact ⟨⟨es, clock, hb.trans h1, h2⟩, h3⟩
theorem IsMp.drewN (h : IsMp P k e enc ok w b m) (n : Nat) : IsMp P k e enc ok (w.drewN n) b m := h.block rfl
theorem IsMp.below {w' : World} {B : Nat} (h : IsMp P k e enc ok w b m) (hb : Below B w w') (hB : b < B) : IsMp P k e enc ok w' b m := h.block (hb.block b hB)
theorem IsMp.setCell (h : IsMp P k e enc ok w b m) {p : Addr} (hne : b ≠ p.block) (u : Value) : IsMp P k e enc ok (w.setCell p u) b m :=
  h.block (heap_setCell_other w p b u hne)
/-- No map is a row of cells. -/
theorem IsMp.ne (h : IsMp P k e enc ok w b m) {g : Nat} {cs : Array Value} {T : TypeId} {fr : Nat × Nat} (hg : w.heap[g]? = some (.cells cs T fr)) : b ≠ g := by
  obtain ⟨⟨es, clock, h1, _⟩, _⟩ := h
  rintro rfl
  rw [h1] at hg
  injection hg with hg
  cases hg

variable {ops : Array Oper} {rest : List Oper} {o : Oper} {a : Act} {Q : Exit → Act → World → Prop}
/-- 'map[K]int{}'. -/
theorem wpList_mkmap (hg : o.guard = none) (hop : o.op = Op.makeMap t none) (k e : TypeId) (enc : κ → Value) (ok : κ → Prop)
    (hK : ∀ mb w', mb = w.heap.size → IsMp P k e enc ok w' mb ([] : List (κ × Int)) → Below w.heap.size w w' → wpList P ops Q rest (a.put o.dst (.map (some mb))) w') : wpList P ops Q (o :: rest) a w := by
  refine wpList_plain hg fun K hK' => ?_
  unfold Oper.wp
  simp [execOp, hop, run_makeMap, Result.andThen]
  exact hK' _ _ (hK _ _ rfl (IsMp.made P k e enc ok w) ((Below.refl _ _).alloc (Nat.le_refl _) _))
/-- 'm[k]'. -/
theorem wpList_mget (hg : o.guard = none) (mo x : Operand) (hop : o.op = Op.lookup t mo x false) (C : Codec P k enc ok) (ht : P.underlying t = some (.map k e)) (he : P.underlying e = some (.int .i64))
    (hz : ∀ w, (zeroValue e).run P w = .ok (.int .i64 0) w) (h : IsMp P k e enc ok w b m) (hm : a.eval mo = .map (some b)) (key : κ) (hx : a.eval x = enc key) (hk : ok key)
    (hK : wpList P ops Q rest (a.put o.dst (.int .i64 (mget m key))) w) : wpList P ops Q (o :: rest) a w := by
  refine wpList_lookup_own_int w hg mo x t hop k e .i64 C.keyed ht he (hz w) b m.length _ hm h.own _ _ hx (C.key hk) fun c hat _ => ?_
  have := (datum_at C hk m h.oks).symm.trans hat
  injection this with this
  injection this with _ this
  rw [← this]
  exact hK
/-- 'v, ok := m[k]'. -/
theorem wpList_mget_ok (hg : o.guard = none) (mo x : Operand) (hop : o.op = Op.lookup t mo x true) (C : Codec P k enc ok) (ht : P.underlying t = some (.map k e)) (he : P.underlying e = some (.int .i64))
    (hz : ∀ w, (zeroValue e).run P w = .ok (.int .i64 0) w) (h : IsMp P k e enc ok w b m) (hm : a.eval mo = .map (some b)) (key : κ) (hx : a.eval x = enc key) (hk : ok key)
    (hK : wpList P ops Q rest (a.put o.dst (.tuple #[.int .i64 (mget m key), .bool (mhas m key)])) w) : wpList P ops Q (o :: rest) a w := by
  refine wpList_lookup_own_ok_int w hg mo x t hop k e .i64 C.keyed ht he (hz w) b m.length _ hm h.own _ _ hx (C.key hk) fun c hat _ => ?_
  have := (datum_at C hk m h.oks).symm.trans hat
  injection this with this
  injection this with _ this
  rw [← this, datum_has C hk m h.oks]
  exact hK
/-- 'm[k] = v'. -/
theorem wpList_mput (hg : o.guard = none) (mo x v : Operand) (hop : o.op = Op.mapUpdate t mo x v) (C : Codec P k enc ok) (ht : P.underlying t = some (.map k e)) (he : P.underlying e = some (.int .i64))
    (h : IsMp P k e enc ok w b m) (hm : a.eval mo = .map (some b)) (key : κ) (hx : a.eval x = enc key) (hk : ok key) (n : Int) (hv : a.eval v = .int .i64 n) (hn : (Lit.int .i64 n).wf = true) (hl : m.length < maxLen)
    (hK : ∀ w', IsMp P k e enc ok w' b ((key, n) :: m) → w.grownBy w' (some b) → wpList P ops Q rest (a.put o.dst undef) w') : wpList P ops Q (o :: rest) a w := by
  refine wpList_mapUpdate_own w hg mo x v t hop k e C.keyed ht (plainElem P e) b m.length _ hm h.own hl _ _ _ hx hv (C.key hk) _ [] (plainElem_int he hn) fun w' h1 hg => hK w' ⟨h1, fun p hp => ?_⟩ hg
  rcases List.mem_cons.1 hp with rfl | hp
  · exact hk
  · exact h.oks p hp
end
end Go.Proofs.Yteagogcpbcickaa.Mp
-- written by a program of this session (wip/gen/gen.py); Lean checks it
namespace Go.Proofs.Yteagogcpbcickaa.G
open Go.RowKit Go.Proofs.YteagogcpbcickaaW.PrintWords Go.Proofs.YteagogcpbcickaaW.PrintLast Go.Proofs.YteagogcpbcickaaW.PrintMore
attribute [local go_sem] max2_int min2_int max_two min_two max_three min_three max_four min_four   -- for this text's walks alone
set_option linter.unusedVariables false
set_option linter.unusedSimpArgs false

/-! ### impl_within: function 60 -/
def impl_within.f (a0 : Int) (a1 : Int) (a2 : Int) : Option (Bool) := if a0 ≥ a1 then (some (decide (a0 ≤ a2))) else (some false)
set_option maxHeartbeats 8000000 in
set_option maxRecDepth 100000 in
theorem impl_within.calls (a0 : Int) (a1 : Int) (a2 : Int) (r : Bool) (w : World) (h : impl_within.f a0 a1 a2 = some r) :
    Calls Try.prog 60 #[.int .i64 a0, .int .i64 a1, .int .i64 a2] w fun e w' => e = .returned (.bool r) ∧ Drawn0 w w' := by
  have H : (if a0 ≥ a1 then (some (decide (a0 ≤ a2))) else (some false)) = some r := h
  clear h
  by_cases c4 : a0 ≥ a1
  · rw [if_pos c4] at H
    have c4b0 : decide (a1 ≤ a0) = true := decide_eq_true c4
    clear c4
    obtain rfl := Option.some.inj H
    go_enter Try.func60, Try.ntmps60
    go_wp2
    go_ret
    exact ⟨by first | rfl | (simp; done) | (simp [*]; done), by repeat (first | exact Drawn0.refl _ | apply Drawn0.step)⟩
  · rw [if_neg c4] at H
    have c4b0 : decide (a1 ≤ a0) = false := decide_eq_false c4
    clear c4
    obtain rfl := Option.some.inj H
    go_enter Try.func60, Try.ntmps60
    go_wp2
    go_ret
    exact ⟨by first | rfl | (simp; done) | (simp [*]; done), by repeat (first | exact Drawn0.refl _ | apply Drawn0.step)⟩

end Go.Proofs.Yteagogcpbcickaa.G
-- written by a program of this session (wip/gen/gen.py); Lean checks it
namespace Go.Proofs.Yteagogcpbcickaa.G
open Go.RowKit Go.Proofs.YteagogcpbcickaaW.PrintWords Go.Proofs.YteagogcpbcickaaW.PrintLast Go.Proofs.YteagogcpbcickaaW.PrintMore
attribute [local go_sem] max2_int min2_int max_two min_two max_three min_three max_four min_four   -- for this text's walks alone
set_option linter.unusedVariables false
set_option linter.unusedSimpArgs false

/-! ### impl_GraphOk: function 18 -/

open Go.Proofs.Yteagogcpbcickaa.Mp
/-- A node of a right graph: of nodes told before, the lesser first, not one node twice, and none that stood there already. -/
def okAnd (ins : Int) (L : List S79) (i : Nat) : Prop :=
  ¬ (rd_T79 L i).f0 < 2 ∧ ¬ (rd_T79 L i).f1 ≤ (rd_T79 L i).f0 ∧ ¬ wrap64 (Int.tdiv (rd_T79 L i).f0 2) = wrap64 (Int.tdiv (rd_T79 L i).f1 2) ∧ (rd_T79 L i).f1 < 2 * (ins + 1 + i) ∧ rd_T79 L i ∉ L.take i
/-- A right graph. -/
def GOk (ins : Int) (L : List S79) : Prop := (0 ≤ ins ∧ ins ≤ 12) ∧ L.length ≤ 3000 ∧ ∀ i, i < L.length → okAnd ins L i
instance : DecidableEq S79 := fun a b => decidable_of_iff (a.f0 = b.f0 ∧ a.f1 = b.f1) (by cases a; cases b; simp)
instance (ins : Int) (L : List S79) (i : Nat) : Decidable (okAnd ins L i) := by unfold okAnd; infer_instance
instance (ins : Int) (L : List S79) : Decidable (GOk ins L) := by unfold GOk; infer_instance
def impl_GraphOk.f (a0_0 : Int) (l0_1 : List S79) : Option Bool := some (decide (GOk a0_0 l0_1))
def encAnd (a : S79) : Value := .agg #[.int .i64 a.f0, .int .i64 a.f1]
def wfAnd (a : S79) : Prop := (Lit.int .i64 a.f0).wf = true ∧ (Lit.int .i64 a.f1).wf = true
theorem andKeyed : Go.Maps.Keyed Try.prog 79 := Go.Maps.Keyed.of_law (deep_law_laid (by kernel_rfl) (m := 2) (by omega) (of_decide_eq_true (by kernel_rfl)) (by kernel_rfl) (by rw [Try.underlying79]))
theorem andKey (x : S79) (h : wfAnd x) : (keyOf Try.prog 79 (encAnd x)).isSome = true := by
  have hk : Try.prog.keyType 79 = true := by kernel_rfl
  have hc : Try.prog.cellsOf 79 = 2 := by kernel_rfl
  have hc3 : Try.prog.cellsOf 3 = 1 := by kernel_rfl
  obtain ⟨m, hm⟩ : ∃ m, Try.prog.types.size = m + 1 := Nat.exists_eq_succ_of_ne_zero (fun h => absurd (show decide (79 < Try.prog.types.size) = true from by kernel_rfl) (by rw [h]; decide))
  have h3 : ∀ n, (Lit.int .i64 n).wf = true → Try.prog.keyLits (m+1) 3 [.int .i64 n] = some [.int .i64 n] := by intro n hn; simp [Program.keyLits, Try.underlying3, hn]
  have hf : (encAnd x).formed Try.prog 79 = true := by simp [encAnd, Value.formed, Try.underlying79, hc]
  unfold keyOf
  rw [Try.underlying79]
  simp only [hk, hf, Bool.and_self, if_true, hm]
  unfold Program.keyLits
  rw [Try.underlying79]
  simp [encAnd, Value.cells, hc, hc3, h3 _ h.1, h3 _ h.2]
theorem andCodec : Codec Try.prog 79 encAnd wfAnd := ⟨andKeyed, andKey, fun x y h => by
  cases x; cases y
  simp [encAnd] at h
  simp [h]⟩
theorem zeroInt (w : World) : (zeroValue 3).run Try.prog w = .ok (.int .i64 0) w := by kernel_rfl
/-- What the loop has put: the first nodes, each with 1. -/
def metMap (L : List S79) (i : Nat) : List (S79 × Int) := ((L.take i).map fun a => (a, 1)).reverse
theorem mget_ones (x : S79) : ∀ l : List S79, mget (l.map fun a => (a, (1 : Int))) x = if x ∈ l then 1 else 0 := by
  intro l
  induction l with
  | nil => rfl
  | cons a r ih =>
    simp only [List.map_cons, mget, List.mem_cons]
    by_cases h : a = x
    · rw [if_pos h, if_pos (.inl h.symm)]
    · rw [if_neg h, ih]
      by_cases h' : x ∈ r
      · rw [if_pos h', if_pos (.inr h')]
      · rw [if_neg h', if_neg (by rintro (h2 | h2); exact h h2.symm; exact h' h2)]
theorem mget_met (L : List S79) (i : Nat) (x : S79) : mget (metMap L i) x = if x ∈ L.take i then 1 else 0 := by
  unfold metMap
  rw [← List.map_reverse, mget_ones]
  simp only [List.mem_reverse]
theorem metMap_succ (L : List S79) (i : Nat) (hi : i < L.length) : metMap L (i + 1) = (rd_T79 L i, 1) :: metMap L i := by
  unfold metMap
  rw [List.take_add_one, List.map_append, List.reverse_append, List.getElem?_eq_getElem hi]
  simp [rd_T79, List.getD_eq_getElem?_getD, List.getElem?_eq_getElem hi]
set_option maxHeartbeats 8000000 in
set_option maxRecDepth 100000 in
theorem impl_GraphOk.calls (a0_0 : Int) (A0_1 : Option Addr) (c0_1 : Nat) (l0_1 : List S79) (r : Bool) (w : World) (hr0_1 : Kd.C k79 w A0_1 l0_1.length l0_1) (hc0_1 : l0_1.length ≤ c0_1) (h : impl_GraphOk.f a0_0 l0_1 = some r) :
    Calls Try.prog 18 #[.agg #[.int .i64 a0_0, .slice A0_1 l0_1.length c0_1]] w fun e w' => e = .returned (.bool r) ∧ Below w.heap.size w w' := by
  have HR := Aside0.mk hr0_1
  clear hr0_1
  obtain rfl := Option.some.inj h
  clear h
  have HB := Aside0.mk (Below.refl w.heap.size w)
  have out : ∀ b : Bool, impl_within.f a0_0 0 12 = some b → (b = false ∨ ¬ l0_1.length ≤ 3000) → Calls Try.prog 18 #[.agg #[.int .i64 a0_0, .slice A0_1 l0_1.length c0_1]] w fun e w' => e = .returned (.bool false) ∧ Below w.heap.size w w' := by
    intro b hb hor
    have hw := Aside0.mk hb
    clear hb
    cases b with
    | false =>
      go_enter Try.func18, Try.ntmps18
      go_wp2_with (go_at_call 60; (with_reducible refine (impl_within.calls a0_0 0 12 false _ hw.out).mono ?_); rintro e w' ⟨rfl, ⟨nd, rfl⟩⟩)
      go_ret
      exact ⟨rfl, pw_below_drewN (below_alloc HB.out _) _⟩
    | true =>
      have hgt : ((l0_1.length : Int) > 3000) := by rcases hor with h | h; cases h; omega
      have hg0 : decide (3000 < l0_1.length) = true := decide_eq_true (by omega)
      go_enter Try.func18, Try.ntmps18
      go_wp2_with (go_at_call 60; (with_reducible refine (impl_within.calls a0_0 0 12 true _ hw.out).mono ?_); rintro e w' ⟨rfl, ⟨nd, rfl⟩⟩)
      go_ret
      exact ⟨rfl, pw_below_drewN (below_alloc HB.out _) _⟩
  by_cases hin : 0 ≤ a0_0 ∧ a0_0 ≤ 12
  · have hw : impl_within.f a0_0 0 12 = some true := by unfold impl_within.f; rw [if_pos (by omega)]; simp [hin.2]
    by_cases hlen : l0_1.length ≤ 3000
    · have hW := Aside0.mk hw
      clear hw out
      have hg0 : decide (3000 < l0_1.length) = false := decide_eq_false (by omega)
      go_enter Try.func18, Try.ntmps18
      go_wp2_with (first | ((with_reducible refine gate_dst (N := 1) rfl ?_); refine box_event ?hg (N := 1) ?hd (cs := #[.int .i64 a0_0, .slice A0_1 l0_1.length c0_1]) (t := 29) ?hr ?_; (case hd => rfl); (case hg => rfl); (case hr => first | (go_simp; done) | (go_simp; rfl)); intro gb hg w3 hbox hb; have BK := Aside0.mk hbox; have HB3 := Aside0.mk (below_step HB.out hb); have GE := Aside0.mk (by rw [hg]; exact Nat.le_refl _ : w.heap.size ≤ gb); clear HB; have hcz0 : w3.cell? ⟨gb, 0, none⟩ = some (.int .i64 a0_0) := (blk_cell BK.out 0).trans rfl; have hcz1 : w3.cell? ⟨gb, 1, none⟩ = some (.slice A0_1 l0_1.length c0_1) := (blk_cell BK.out 1).trans rfl; clear hbox hb hg) | (go_at_call 60; (with_reducible refine (impl_within.calls a0_0 0 12 true _ hW.out).mono ?_); rintro e w' ⟨rfl, ⟨nd, rfl⟩⟩) | ((with_reducible refine gate_dst (N := 16) rfl ?_); go_loud (refine wpList_mkmap (κ := S79) (P := Try.prog) (t := 81) ?_ ?_ 79 3 encAnd wfAnd ?_; rfl; rfl; intro mb w4 hmb HM0 hb4; have HM := Aside0.mk HM0; have HB4 := Aside0.mk (below_step (pw_below_drewN HB3.out nd) hb4); have BK4 := Aside0.mk (blk_below (blk_drewN BK.out nd) hb4); have MG := Aside0.mk (by rw [hmb]; exact (pw_below_drewN HB3.out nd).size : w.heap.size ≤ mb); clear HM0 hb4 hmb HB3 BK hcz0 hcz1; have hcy0 : w4.cell? ⟨gb, 0, none⟩ = some (.int .i64 a0_0) := (blk_cell BK4.out 0).trans rfl; have hcy1 : w4.cell? ⟨gb, 1, none⟩ = some (.slice A0_1 l0_1.length c0_1) := (blk_cell BK4.out 1).trans rfl)))
      clear hcy0 hcy1
      go_loopg [20] l0_1.length (fun kq v20 wr => ∃ i : Nat, v20 = .int .i64 i ∧ Aside0 (i ≤ l0_1.length ∧ kq = l0_1.length - i) ∧ Aside0 (∀ j, j < i → okAnd a0_0 l0_1 j) ∧ Aside0 (IsMp Try.prog 79 3 encAnd wfAnd wr mb (metMap l0_1 i)) ∧ Aside0 (wr.heap[gb]? = some (.cells #[.int .i64 a0_0, .slice A0_1 l0_1.length c0_1] 29 (0, 0))) ∧ Aside0 (Below w.heap.size w wr))
      case atStart => exact ⟨0, rfl, ⟨by omega, by omega⟩, ⟨fun j hj => by omega⟩, HM, BK4, HB4⟩
      case round =>
        clear HM BK4 HB4
        obtain ⟨i, rfl, hi, hall, HM, BK, HB⟩ := hrel
        have hcz0 : ∀ o, (wr.alloc o).cell? ⟨gb, 0, none⟩ = some (.int .i64 a0_0) := fun o => (blk_cell (blk_alloc BK.out o) 0).trans rfl
        by_cases hlt : i < l0_1.length
        · have hd0 : decide (i < l0_1.length) = true := decide_eq_true hlt
          have hd1 : decide ((i : Int) < (l0_1.length : Int)) = true := decide_eq_true (by omega)
          obtain ⟨ad, e_, hx0, hx1⟩ := at_T79 HR.out (i : Int) (by omega) (by omega)
          cases e_
          replace hx0 := (HB.out.cell (World.block_lt_of_cell? w _ hx0)).trans hx0
          replace hx1 := (HB.out.cell (World.block_lt_of_cell? w _ hx1)).trans hx1
          rw [Int.toNat_natCast] at hx0 hx1
          have hi0 := hi.out.1
          have hw1 : wrap64 (a0_0 + 1) = a0_0 + 1 := by unfold wrap64; omega
          have hw2 : wrap64 (a0_0 + 1 + (i : Int)) = a0_0 + 1 + i := by unfold wrap64; omega
          have hw3 : wrap64 (2 * (a0_0 + 1 + (i : Int))) = 2 * (a0_0 + 1 + i) := by unfold wrap64; omega
          clear hi0
          have hw4 : wrap64 ((i : Int) + 1) = (i : Int) + 1 := by unfold wrap64; omega
          by_cases c1 : (rd_T79 l0_1 i).f0 < 2
          · have d1 : decide ((rd_T79 l0_1 i).f0 < 2) = true := decide_eq_true c1
            clear c1
            go_wp2
            have c1 := of_decide_eq_true d1
            go_ret
            exact ⟨(by rw [decide_eq_false (fun h : GOk a0_0 l0_1 => absurd (h.2.2 i hlt) (fun h => h.1 c1))]; rfl), below_alloc HB.out _⟩
          have d1 : decide ((rd_T79 l0_1 i).f0 < 2) = false := decide_eq_false c1
          by_cases c2 : (rd_T79 l0_1 i).f1 ≤ (rd_T79 l0_1 i).f0
          · have d2 : decide ((rd_T79 l0_1 i).f1 ≤ (rd_T79 l0_1 i).f0) = true := decide_eq_true c2
            clear c1 c2
            go_wp2
            have c2 := of_decide_eq_true d2
            go_ret
            exact ⟨(by rw [decide_eq_false (fun h : GOk a0_0 l0_1 => absurd (h.2.2 i hlt) (fun h => h.2.1 c2))]; rfl), below_alloc HB.out _⟩
          have d2 : decide ((rd_T79 l0_1 i).f1 ≤ (rd_T79 l0_1 i).f0) = false := decide_eq_false c2
          by_cases c3 : wrap64 (Int.tdiv (rd_T79 l0_1 i).f0 2) = wrap64 (Int.tdiv (rd_T79 l0_1 i).f1 2)
          · have d3 : (wrap64 (Int.tdiv (rd_T79 l0_1 i).f0 2) == wrap64 (Int.tdiv (rd_T79 l0_1 i).f1 2)) = true := beq_iff_eq.2 c3
            clear c1 c2 c3
            go_wp2
            have c3 := beq_iff_eq.1 d3
            go_ret
            exact ⟨(by rw [decide_eq_false (fun h : GOk a0_0 l0_1 => absurd (h.2.2 i hlt) (fun h => h.2.2.1 c3))]; rfl), below_alloc HB.out _⟩
          have d3 : (wrap64 (Int.tdiv (rd_T79 l0_1 i).f0 2) == wrap64 (Int.tdiv (rd_T79 l0_1 i).f1 2)) = false := beq_eq_false_iff_ne.2 c3
          by_cases c4 : 2 * (a0_0 + 1 + (i : Int)) ≤ (rd_T79 l0_1 i).f1
          · have d4 : decide (2 * (a0_0 + 1 + (i : Int)) ≤ (rd_T79 l0_1 i).f1) = true := decide_eq_true c4
            clear c1 c2 c3 c4
            go_wp2
            have c4 := of_decide_eq_true d4
            go_ret
            exact ⟨(by rw [decide_eq_false (fun h : GOk a0_0 l0_1 => absurd (h.2.2 i hlt) (fun h => by have := h.2.2.2.1; omega))]; rfl), below_alloc HB.out _⟩
          have d4 : decide (2 * (a0_0 + 1 + (i : Int)) ≤ (rd_T79 l0_1 i).f1) = false := decide_eq_false c4
          have hwf : Aside0 (wfAnd (rd_T79 l0_1 i)) := ⟨WalkArith.wf_i64 (by omega), WalkArith.wf_i64 (by omega)⟩
          have hml : Aside0 ((metMap l0_1 i).length < maxLen) := ⟨by simp [metMap, maxLen]; omega⟩
          have hin5 : ¬ (rd_T79 l0_1 i) ∈ l0_1.take i → okAnd a0_0 l0_1 i := fun h5 => ⟨c1, c2, c3, by omega, h5⟩
          have hin5 := Aside0.mk hin5
          by_cases c5 : (rd_T79 l0_1 i) ∈ l0_1.take i
          · have d5 : mget (metMap l0_1 i) (rd_T79 l0_1 i) = 1 := by rw [mget_met, if_pos c5]
            have c5 := Aside0.mk c5
            clear c1 c2 c3 c4
            go_wp2_with (first | (at_lookup; (try (refine gate_guard (by rfl) ?_; dsimp only)); refine wpList_mget (κ := S79) (P := Try.prog) (t := 81) (k := 79) (e := 3) (m := metMap l0_1 i) rfl _ _ rfl andCodec Try.underlying81 Try.underlying3 zeroInt (HM.out.alloc _) rfl (rd_T79 l0_1 i) rfl hwf.out ?_))
            go_ret
            exact ⟨(by rw [decide_eq_false (fun h : GOk a0_0 l0_1 => absurd (h.2.2 i hlt) (fun h => h.2.2.2.2 c5.out))]; rfl), below_alloc HB.out _⟩
          · have d5 : mget (metMap l0_1 i) (rd_T79 l0_1 i) = 0 := by rw [mget_met, if_neg c5]
            have c5 := Aside0.mk c5
            clear c1 c2 c3 c4
            go_wp2_with (first | (at_lookup; (try (refine gate_guard (by rfl) ?_; dsimp only)); refine wpList_mget (κ := S79) (P := Try.prog) (t := 81) (k := 79) (e := 3) (m := metMap l0_1 i) rfl _ _ rfl andCodec Try.underlying81 Try.underlying3 zeroInt (HM.out.alloc _) rfl (rd_T79 l0_1 i) rfl hwf.out ?_) | (at_mapUpdate; refine wpList_mput (κ := S79) (P := Try.prog) (t := 81) (k := 79) (e := 3) (m := metMap l0_1 i) rfl _ _ _ rfl andCodec Try.underlying81 Try.underlying3 (HM.out.alloc _) rfl (rd_T79 l0_1 i) rfl hwf.out 1 rfl (by decide) hml.out ?_; intro w1 hm1 hg1))
            go_roundg (l0_1.length - (i + 1))
            case measure => have := hi.out; omega
            case rel => exact ⟨i + 1, rfl, ⟨by have := hi.out; omega, rfl⟩, ⟨fun j hj => by rcases Nat.lt_succ_iff_lt_or_eq.1 hj with h | rfl; exact hall.out j h; exact hin5.out c5.out⟩, ⟨by rw [metMap_succ _ _ hlt]; exact hm1⟩, ⟨blk_grown (blk_alloc BK.out _) hg1 (by intro h_; injection h_ with h_; exact (HM.out.ne BK.out) h_.symm)⟩, ⟨pw_below_grown (below_alloc HB.out _) (some mb) (below_alloc HB.out _).size hg1 (fun k_ hk_ => by injection hk_ with hk_; subst hk_; exact MG.out)⟩⟩
        · have hd0 : decide (i < l0_1.length) = false := decide_eq_false hlt
          have hd1 : decide ((i : Int) < (l0_1.length : Int)) = false := decide_eq_false (by omega)
          go_wp2
          go_ret
          have hG : GOk a0_0 l0_1 := ⟨hin, hlen, fun j hj => hall.out j (by omega)⟩
          exact ⟨(by rw [decide_eq_true hG]; rfl), HB.out⟩
    · have := out true hw (.inr hlen)
      rwa [decide_eq_false (fun h : GOk a0_0 l0_1 => hlen h.2.1)]
  · have hw : impl_within.f a0_0 0 12 = some false := by
      unfold impl_within.f
      by_cases h0 : a0_0 ≥ 0
      · rw [if_pos h0]; simp; omega
      · rw [if_neg h0]
    have := out false hw (.inl rfl)
    rwa [decide_eq_false (fun h : GOk a0_0 l0_1 => hin h.1)]

end Go.Proofs.Yteagogcpbcickaa.G
-- written by a program of this session (wip/gen/gen.py); Lean checks it
namespace Go.Proofs.Yteagogcpbcickaa.G
open Go.RowKit Go.Proofs.YteagogcpbcickaaW.PrintWords Go.Proofs.YteagogcpbcickaaW.PrintLast Go.Proofs.YteagogcpbcickaaW.PrintMore
attribute [local go_sem] max2_int min2_int max_two min_two max_three min_three max_four min_four   -- for this text's walks alone
set_option linter.unusedVariables false
set_option linter.unusedSimpArgs false

/-! ### impl_Graph_wires: function 64 -/
def impl_Graph_wires.f (a0_0 : Int) (l0_1 : List (S79)) : Option (Int) := some (wrap64 (2 * (wrap64 ((wrap64 (a0_0 + 1)) + (l0_1.length : Int)))))
set_option maxHeartbeats 8000000 in
set_option maxRecDepth 100000 in
theorem impl_Graph_wires.calls (a0_0 : Int) (A0_1 : Option Addr) (c0_1 : Nat) (l0_1 : List (S79)) (r : Int) (w : World) (hr0_1 : Kd.C k79 w A0_1 l0_1.length l0_1) (hc0_1 : l0_1.length ≤ c0_1) (h : impl_Graph_wires.f a0_0 l0_1 = some r) :
    Calls Try.prog 64 #[.agg #[.int .i64 a0_0, .slice A0_1 l0_1.length c0_1]] w fun e w' => e = .returned (.int .i64 r) ∧ Below w.heap.size w w' := by
  have hu29 := Try.underlying29
  have HR0_1 := Aside0.mk hr0_1
  have HC0_1 := Aside0.mk hc0_1
  clear hr0_1 hc0_1
  have HB := Aside0.mk (Below.refl w.heap.size w)
  have H : (some (wrap64 (2 * (wrap64 ((wrap64 (a0_0 + 1)) + (l0_1.length : Int)))))) = some r := h
  clear h
  obtain rfl := Option.some.inj H
  go_enter Try.func64, Try.ntmps64
  go_wp2_with (first | ((with_reducible refine gate_dst (N := 1) rfl ?_); refine box_event ?hg (N := 1) ?hd (cs := #[.int .i64 a0_0, .slice A0_1 l0_1.length c0_1]) (t := 29) ?hr ?_; (case hd => rfl); (case hg => rfl); (case hr => first | (go_simp; done) | (go_simp; rfl)); intro gb101 hg w2 hbox hb; have n0_ := Aside0.mk (below_step (by repeat (first | (with_reducible first | exact HB.out | apply below_alloc | apply pw_below_drewN | apply below_drew1) | exact HB.out)) hb); have n1_ := Aside0.mk (hbox); have n2_ := Aside0.mk ((by rw [hg]; exact (below_size (by repeat (first | (with_reducible first | exact HB.out | apply below_alloc | apply pw_below_drewN | apply below_drew1) | exact HB.out))) : w.heap.size ≤ gb101)); have n3_ := Aside0.mk ((by rw [hg]; exact (below_size (by repeat (first | (with_reducible first | exact HB.out | apply below_alloc | apply pw_below_drewN | apply below_drew1) | exact HB.out))) : w.heap.size ≤ gb101)); clear HB; have HB := n0_; have BK101 := n1_; have GW101 := n2_; have GE101 := n3_; clear n0_ n1_ n2_ n3_; clear hb hbox hg; have hcz3_0 : w2.cell? ⟨gb101, 0, none⟩ = some (.int .i64 a0_0) := (blk_cell BK101.out 0).trans rfl; have hcz3_1 : w2.cell? ⟨gb101, 1, none⟩ = some (.slice A0_1 l0_1.length c0_1) := (blk_cell BK101.out 1).trans rfl; have hfz3_0 := blk_frozen BK101.out 0; have hfz3_1 := blk_frozen BK101.out 1))
  go_ret
  exact ⟨by first | rfl | (simp [errW_none, errW_some] <;> rfl) | (simp [*, errW_none, errW_some] <;> rfl), by repeat (first | (with_reducible first | exact HB.out | apply below_alloc | apply pw_below_drewN | apply below_drew1 | refine below_set ?_ GE101.out) | exact HB.out)⟩

end Go.Proofs.Yteagogcpbcickaa.G
-- written by a program of this session (wip/gen/gen.py); Lean checks it
namespace Go.Proofs.Yteagogcpbcickaa.G
open Go.RowKit Go.Proofs.YteagogcpbcickaaW.PrintWords Go.Proofs.YteagogcpbcickaaW.PrintLast Go.Proofs.YteagogcpbcickaaW.PrintMore
attribute [local go_sem] max2_int min2_int max_two min_two max_three min_three max_four min_four   -- for this text's walks alone
set_option linter.unusedVariables false
set_option linter.unusedSimpArgs false

/-! ### impl_Graph_isWire: function 63 -/
def impl_Graph_isWire.f (a0_0 : Int) (l0_1 : List (S79)) (a1 : Int) : Option (Bool) := (impl_Graph_wires.f a0_0 l0_1).bind fun t102 => ((impl_within.f a1 0 (wrap64 (t102 - 1))).bind fun t103 => (some t103))
set_option maxHeartbeats 8000000 in
set_option maxRecDepth 100000 in
theorem impl_Graph_isWire.calls (a0_0 : Int) (A0_1 : Option Addr) (c0_1 : Nat) (l0_1 : List (S79)) (a1 : Int) (r : Bool) (w : World) (hr0_1 : Kd.C k79 w A0_1 l0_1.length l0_1) (hc0_1 : l0_1.length ≤ c0_1) (h : impl_Graph_isWire.f a0_0 l0_1 a1 = some r) :
    Calls Try.prog 63 #[.agg #[.int .i64 a0_0, .slice A0_1 l0_1.length c0_1], .int .i64 a1] w fun e w' => e = .returned (.bool r) ∧ Below w.heap.size w w' := by
  have hu29 := Try.underlying29
  have HR0_1 := Aside0.mk hr0_1
  have HC0_1 := Aside0.mk hc0_1
  clear hr0_1 hc0_1
  have HB := Aside0.mk (Below.refl w.heap.size w)
  have H : ((impl_Graph_wires.f a0_0 l0_1).bind fun t102 => ((impl_within.f a1 0 (wrap64 (t102 - 1))).bind fun t103 => (some t103))) = some r := h
  clear h
  replace H := Option.bind_eq_some_iff.mp H
  obtain ⟨t102, A30, H⟩ := H
  replace H : ((impl_within.f a1 0 (wrap64 (t102 - 1))).bind fun t103 => (some t103)) = some r := H
  have A3 := Aside0.mk A30
  clear A30
  replace H := Option.bind_eq_some_iff.mp H
  obtain ⟨t103, A40, H⟩ := H
  replace H : (some t103) = some r := H
  have A4 := Aside0.mk A40
  clear A40
  obtain rfl := Option.some.inj H
  go_enter Try.func63, Try.ntmps63
  go_wp2_with (first | ((with_reducible refine gate_dst (N := 2) rfl ?_); refine box_event ?hg (N := 2) ?hd (cs := #[.int .i64 a0_0, .slice A0_1 l0_1.length c0_1]) (t := 29) ?hr ?_; (case hd => rfl); (case hg => rfl); (case hr => first | (go_simp; done) | (go_simp; rfl)); intro gb101 hg w5 hbox hb; have n0_ := Aside0.mk (below_step (by repeat (first | (with_reducible first | exact HB.out | apply below_alloc | apply pw_below_drewN | apply below_drew1) | exact HB.out)) hb); have n1_ := Aside0.mk (hbox); have n2_ := Aside0.mk ((by rw [hg]; exact (below_size (by repeat (first | (with_reducible first | exact HB.out | apply below_alloc | apply pw_below_drewN | apply below_drew1) | exact HB.out))) : w.heap.size ≤ gb101)); have n3_ := Aside0.mk ((by rw [hg]; exact (below_size (by repeat (first | (with_reducible first | exact HB.out | apply below_alloc | apply pw_below_drewN | apply below_drew1) | exact HB.out))) : w.heap.size ≤ gb101)); clear HB; have HB := n0_; have BK101 := n1_; have GW101 := n2_; have GE101 := n3_; clear n0_ n1_ n2_ n3_; clear hb hbox hg; have hcz6_0 : w5.cell? ⟨gb101, 0, none⟩ = some (.int .i64 a0_0) := (blk_cell BK101.out 0).trans rfl; have hcz6_1 : w5.cell? ⟨gb101, 1, none⟩ = some (.slice A0_1 l0_1.length c0_1) := (blk_cell BK101.out 1).trans rfl; have hfz6_0 := blk_frozen BK101.out 0; have hfz6_1 := blk_frozen BK101.out 1) | ((with_reducible refine gate_callee (f := 64) rfl ?_); refine goesL_ (some 7) rfl rfl Try.func64 (by kernel_rfl) rfl #[.agg #[.int .i64 a0_0, .slice A0_1 l0_1.length c0_1]] rfl (by (try simp only [List.map_toArray, List.map_cons, List.map_nil]); first | done | rfl | (simp only [List.length_drop, List.length_take]; rfl)) ?_; (with_reducible refine (impl_Graph_wires.calls a0_0 _ _ l0_1 t102 _ ?side1 ?side2 A3.out).mono ?_); (case side1 => repeat (first | exact (Kd.C_below HR0_1.out HB.out) | (with_reducible refine Kd.C_alloc ?_ _) | (with_reducible refine Kd.C_drewN ?_ _) | (with_reducible refine Kd.C_drew ?_))); (case side2 => exact HC0_1.out); rintro e w7 ⟨rfl, hb⟩; refine ⟨_, rfl, ?_⟩; have n0_ := Aside0.mk (blk_below (g := gb101) (o := .cells #[.int .i64 a0_0, .slice A0_1 l0_1.length c0_1] 29 (0, 0)) (by (with_reducible repeat (first | refine blk_drewN ?_ _ | refine blk_drew ?_ | refine blk_alloc ?_ _)); exact BK101.out) hb); have n1_ := Aside0.mk (below_step (by repeat (first | (with_reducible first | exact HB.out | apply below_alloc | apply pw_below_drewN | apply below_drew1 | refine below_set ?_ GE101.out) | exact HB.out)) hb); clear BK101; clear HB; have BK101 := n0_; have HB := n1_; clear n0_ n1_; (try clear hb); (try clear hb2); (try clear hk); (try clear hi)) | ((with_reducible refine gate_callee (f := 60) rfl ?_); refine goesL_ (some 9) rfl rfl Try.func60 (by kernel_rfl) rfl #[.int .i64 a1, .int .i64 0, .int .i64 (wrap64 (t102 - 1))] rfl (by (try simp only [List.map_toArray, List.map_cons, List.map_nil]); first | done | rfl | (simp only [List.length_drop, List.length_take]; rfl)) ?_; (with_reducible refine (impl_within.calls a1 0 (wrap64 (t102 - 1)) t103 _ A4.out).mono ?_); rintro e w' ⟨rfl, ⟨nd, rfl⟩⟩; refine ⟨_, rfl, ?_⟩))
  go_ret
  exact ⟨by first | rfl | (simp [errW_none, errW_some] <;> rfl) | (simp [*, errW_none, errW_some] <;> rfl), by repeat (first | (with_reducible first | exact HB.out | apply below_alloc | apply pw_below_drewN | apply below_drew1 | refine below_set ?_ GE101.out) | exact HB.out)⟩

end Go.Proofs.Yteagogcpbcickaa.G
/- copy into what a cut leaves of a row of the call's own. Conditions: each lemma's own hypotheses. -/
set_option linter.unusedSimpArgs false
set_option linter.unusedVariables false
namespace Go.Proofs.Yteagogcpbcickaa.Cp
open Go.RowKit Go.Proofs.YteagogcpbcickaaW.PrintWords Go.Proofs.YteagogcpbcickaaW.PrintLast Go.Proofs.YteagogcpbcickaaW.PrintMore Go.Proofs.YteagogcpbcickaaW.PrintWords.Kd

theorem copy_at {P : Program} {ops : Array Oper} {rest : List Oper} {o : Oper} {a : Act} {Q : Exit → Act → World → Prop} {α : Type} {enc : α → Value} {h1 : ∀ x, (enc x).oneCell' = true} {d : α} {w0 W : World} (base : Nat) (hgd : o.guard = none) (s x : Operand) (t t' e : TypeId)
    (ho : o.op = .call { callee := .builtin .copy, args := #[s, x], argTypes := #[t, t'] }) (ht : P.underlying t = some (.slice e)) (hinfo : (P.info? e).map (·.size) = some 1)
    {g n c L : Nat} {xs ys : List α} {ok : Nat → Prop} {A1 : Option Addr} {n1 c1 : Nat} {A : Option Addr} {m c2 : Nat} (hs : a.eval s = .slice A1 n1 c1) (hx : a.eval x = .slice A m c2)
    (hA : A1 = if c = L then some ⟨g, 0, none⟩ else some ((⟨g, 0, none⟩ : Addr).add L)) (hn : n1 = n - L) (hL : L ≤ n)
    (HO : (scalar enc h1).R e W base ok (.slice (some ⟨g, 0, none⟩) n c) xs) (HR : (scalar enc h1).C W A m ys) (HB : Below base w0 W) (hbase : base ≤ W.heap.size)
    (h : ∀ w1, (scalar enc h1).R e w1 base ok (.slice (some ⟨g, 0, none⟩) n c) (xs.take L ++ (ys.take (xs.length - L) ++ xs.drop (L + ys.length))) → Below base w0 w1 → W.grownBy w1 (some g) → wpList P ops Q rest (a.put o.dst (.int .i64 ((min m n1 : Nat) : Int))) w1) :
    wpList P ops Q (o :: rest) a W := by
  have hR := reads_of_C (enc := enc) (d := d) (h1 := h1) HR
  have hm : ys.length = m := hR.1
  have hn' : n = xs.length := (R_reads' HO).1
  have hnc0 : n ≤ c := (R_reads' HO).2.1
  have hown := own_of_R HO
  have fin : ∀ w1, (Builtin.copy_ #[t, t'] o.type #[.slice A1 n1 c1, .slice A m c2]).run P W = .ok (goInt ((min m n1 : Nat) : Int)) w1 → (scalar enc h1).R e w1 base ok (.slice (some ⟨g, 0, none⟩) n c) (xs.take L ++ (ys.take (xs.length - L) ++ xs.drop (L + ys.length))) → W.grownBy w1 (some g) → wpList P ops Q (o :: rest) a W := by
    intro w1 hr hrow hg
    refine wpList_plain hgd fun K hK => ?_
    unfold Oper.wp execOp
    simp only [ho, resolve, invoke, builtin, Sem.run_bind, Sem.run_pure, Result.andThen_ok, List.map_toArray, List.map_cons, List.map_nil, hs, hx, hr]
    exact hK _ _ (h w1 hrow (HB.grown hg hbase (fun k hk => own_base hown k (by rw [← hk]; rfl))) hg)
  rcases Nat.eq_zero_or_pos (min m n1) with h0 | hp
  · refine fin W ?_ ?_ (World.grownBy.refl W _)
    · rw [h0]
      exact run_copy_none W t t' o.type e A1 A n1 c1 m c2 ht hinfo h0
    · have hz : xs.take L ++ (ys.take (xs.length - L) ++ xs.drop (L + ys.length)) = xs := by
        rcases Nat.eq_zero_or_pos ys.length with hy | hy
        · rw [List.length_eq_zero_iff.1 hy]
          simp
        · have : xs.length - L = 0 := by omega
          rw [this, List.take_zero, List.nil_append, List.drop_eq_nil_of_le (by omega), List.take_of_length_le (by omega), List.append_nil]
      rw [hz]
      exact HO
  · obtain ⟨ad, hAd, hc⟩ := hR.2.2 (by omega)
    have hA1 : A1 = some ⟨g, L, none⟩ := by rw [hA, if_neg (by omega), add_plain]
    rcases hown.2 with ⟨hv, _⟩ | ⟨g', cap, cur, hv, hb, hh, hnc, hcm, hcs, htake⟩
    · injection hv with hv _ _
      cases hv
    injection hv with hv1 hv2 hv3
    injection hv1 with hv1
    injection hv1 with hv1 _ _
    subst hv1
    subst hv3
    have hcs1 : cur.size = c := by omega
    have hkl : (encs enc (ys.take (min m n1))).length = min m n1 := by rw [encs_length, List.length_take]; omega
    have hsrc : ∀ j u, (encs enc (ys.take (min m n1)))[j]? = some u → W.cell? (ad.add j) = some u := by
      intro j u hu
      have hj : j < (ys.take (min m n1)).length := by
        rcases Nat.lt_or_ge j (ys.take (min m n1)).length with h | h
        · exact h
        · rw [List.getElem?_eq_none (by rw [encs_length]; exact h)] at hu
          cases hu
      have hjm : j < min m n1 := by rw [List.length_take] at hj; omega
      rw [encs_get (d := d) _ j hj] at hu
      rw [hc j (by omega), ← hu]
      simp [List.getD_eq_getElem?_getD, hjm]
    have hr := run_copy_cells (P := P) W t t' o.type e g L n1 c1 ad m c2 (encs enc (ys.take (min m n1))) ht hinfo (by rw [hkl]) hsrc
      (fun j hj => by rw [cell_of_row W g _ cur e (0, 0) hh]; simp; omega) (fun j _ => blk_frozen hh _) (by intro u hu; simp only [encs, List.mem_map] at hu; obtain ⟨q, _, rfl⟩ := hu; exact h1 q)
    obtain ⟨cur', h3, h4, h5⟩ := setCells_row (encs enc (ys.take (min m n1))) L W cur hh (by rw [hkl]; omega)
    obtain ⟨s1, s2, s3, s4⟩ := setCells_same g (encs enc (ys.take (min m n1))) L W
    have hln : (xs.take L ++ (ys.take (xs.length - L) ++ xs.drop (L + ys.length))).length = n := by
      simp only [List.length_append, List.length_take, List.length_drop]
      omega
    refine fin _ (by rw [hA1, hAd, hr, hkl]) (R_of_own ?_ HO.1) ⟨s1, s2, s3, by rw [s4]; exact Nat.le_refl _, fun k _ hk => setCells_far _ _ k (fun he => hk (by rw [he]))⟩
    rw [hln]
    refine ⟨by rw [encs_length, hln, Nat.mul_one], .inr ⟨g, c, cur', rfl, hb, h3, hnc0, hcm, by rw [h4, hcs], ?_⟩⟩
    rw [h5, hkl, Nat.mul_one]
    have htk : cur.toList.take n = encs enc xs := by rw [hn', ← htake, Nat.mul_one]
    have e1 : cur.toList.take L = encs enc (xs.take L) := by
      have : cur.toList.take L = (cur.toList.take n).take L := by rw [List.take_take, Nat.min_eq_left hL]
      rw [this, htk]
      simp [encs, List.map_take]
    have hM : ys.take (min m n1) = ys.take (xs.length - L) := by
      rcases Nat.le_total m n1 with hq | hq
      · rw [Nat.min_eq_left hq, List.take_of_length_le (by omega), List.take_of_length_le (by omega)]
      · rw [Nat.min_eq_right hq, hn, hn']
    have e2 : (cur.toList.drop (L + min m n1)).take (n - (L + min m n1)) = encs enc (xs.drop (L + ys.length)) := by
      rw [← List.drop_take, htk]
      simp only [encs, ← List.map_drop]
      rcases Nat.le_total m n1 with hq | hq
      · rw [Nat.min_eq_left hq, hm]
      · rw [Nat.min_eq_right hq, show xs.drop (L + n1) = [] from List.drop_eq_nil_of_le (by omega), show xs.drop (L + ys.length) = [] from List.drop_eq_nil_of_le (by omega)]
    rw [List.append_assoc, List.take_append, List.take_of_length_le (by rw [List.length_take]; omega), e1, hM, encs_append, encs_append]
    congr 1
    have hk2 : (encs enc (ys.take (xs.length - L))).length = min m n1 := by rw [← hM]; exact hkl
    rw [List.take_append, List.take_of_length_le (by rw [hk2, encs_length, List.length_take]; omega), ← e2]
    congr 2
    rw [hk2, encs_length, List.length_take]
    omega
end Go.Proofs.Yteagogcpbcickaa.Cp
-- written by a program of this session (wip/gen/gen.py); Lean checks it
namespace Go.Proofs.Yteagogcpbcickaa.G
open Go.RowKit Go.Proofs.YteagogcpbcickaaW.PrintWords Go.Proofs.YteagogcpbcickaaW.PrintLast Go.Proofs.YteagogcpbcickaaW.PrintMore
attribute [local go_sem] max2_int min2_int max_two min_two max_three min_three max_four min_four   -- for this text's walks alone
set_option linter.unusedVariables false
set_option linter.unusedSimpArgs false

open Go.Proofs.Yteagogcpbcickaa.Cp
/-! ### impl_Graph_values: function 68 -/
def impl_Graph_values.l0 : Nat → List Int → List (S79) → Int → Int → Int → List (S79) → Option (List Int)
  | 0, _, _, _, _, _, _ => none
  | k + 1, x5, x21, x22, x23, x102000, x102001 => if x23 < x22 then (if 0 ≤ x23 then (if x23 < (x21.length : Int) then (if 0 ≤ (wrap64 (Int.tdiv ((rd_T79 x21 x23).f0) 2)) then (if (wrap64 (Int.tdiv ((rd_T79 x21 x23).f0) 2)) < (x5.length : Int) then (if 0 ≤ (wrap64 (Int.tdiv ((rd_T79 x21 x23).f1) 2)) then (if (wrap64 (Int.tdiv ((rd_T79 x21 x23).f1) 2)) < (x5.length : Int) then (if 0 ≤ (wrap64 ((wrap64 (x102000 + 1)) + x23)) then (if (wrap64 ((wrap64 (x102000 + 1)) + x23)) < (x5.length : Int) then (impl_Graph_values.l0 k (x5.set ((wrap64 ((wrap64 (x102000 + 1)) + x23)) : Int).toNat (Go.bits .and .i64 (Go.bits .xor .i64 (rd x5 (wrap64 (Int.tdiv ((rd_T79 x21 x23).f0) 2))) (Go.bits .and .i64 ((rd_T79 x21 x23).f0) 1)) (Go.bits .xor .i64 (rd x5 (wrap64 (Int.tdiv ((rd_T79 x21 x23).f1) 2))) (Go.bits .and .i64 ((rd_T79 x21 x23).f1) 1)))) x21 x22 (wrap64 (x23 + 1)) x102000 x102001) else (none)) else (none)) else (none)) else (none)) else (none)) else (none)) else (none)) else (none)) else (some x5)
def impl_Graph_values.f (k : Nat) (a0_0 : Int) (l0_1 : List (S79)) (l1 : List Int) : Option (List Int) := if 0 ≤ (wrap64 ((wrap64 (a0_0 + 1)) + (l0_1.length : Int))) then (if (wrap64 ((wrap64 (a0_0 + 1)) + (l0_1.length : Int)) : Int).toNat ≤ 35184372088832 then ((some (List.replicate (wrap64 ((wrap64 (a0_0 + 1)) + (l0_1.length : Int)) : Int).toNat 0 : List Int)).bind fun y102 => (if 1 ≤ (y102.length : Int) then (impl_Graph_values.l0 k (y102.take 1 ++ (l1.take (y102.length - 1) ++ y102.drop (1 + l1.length))) l0_1 (l0_1.length : Int) 0 a0_0 l0_1) else (none))) else (none)) else (none)
def impl_Graph_values.T6 : Bool × List (List Nat × List Nat) := (true, [([], []), ([], []), ([1], [1]), ([2], [2]), ([], []), ([3, 4], [3, 4]), ([], []), ([], []), ([7], [7]), ([8], [8]), ([6, 9], [6, 9]), ([10], [10]), ([], []), ([12], [12]), ([13], [13]), ([11, 14], [11, 14]), ([], []), ([], []), ([17], [17]), ([18], [18]), ([16, 19], [16, 19]), ([20], [20]), ([], []), ([22], [22]), ([23], [23]), ([21, 24], [21, 24]), ([15, 25], [15, 25]), ([0, 5, 0, 1, 2, 3, 4, 5, 6, 7, 8, 9, 10, 11, 12, 13, 14, 15, 16, 17, 18, 19, 20, 21, 22, 23, 24, 25, 26], [0, 5]), ([27, 26, 0, 1, 2, 3, 4, 5, 6, 7, 8, 9, 10, 11, 12, 13, 14, 15, 16, 17, 18, 19, 20, 21, 22, 23, 24, 25, 26], [26, 27])])
def impl_Graph_values.B6 : List Nat := [0, 0, 2, 6, 0, 30, 0, 0, 128, 384, 960, 1984, 0, 4096, 12288, 32704, 0, 0, 131072, 393216, 983040, 2031616, 0, 4194304, 12582912, 33488896, 67108800, 134217727, 268435455]
theorem impl_Graph_values.tab6 : rtab .any (opsOf Try.f68 6) = impl_Graph_values.T6 := by kernel_rfl
theorem impl_Graph_values.bits6 : waitsOk impl_Graph_values.T6.2 impl_Graph_values.B6 = true := by kernel_rfl
set_option maxHeartbeats 8000000 in
set_option maxRecDepth 100000 in
theorem impl_Graph_values.calls (k : Nat) (a0_0 : Int) (A0_1 : Option Addr) (c0_1 : Nat) (l0_1 : List (S79)) (A1 : Option Addr) (c1 : Nat) (l1 : List Int) (r : List Int) (w : World) (hr0_1 : Kd.C k79 w A0_1 l0_1.length l0_1) (hc0_1 : l0_1.length ≤ c0_1) (hr1 : Kd.C (Kd.int .i64) w A1 l1.length l1) (hc1 : l1.length ≤ c1) (h : impl_Graph_values.f k a0_0 l0_1 l1 = some r) :
    Calls Try.prog 68 #[.agg #[.int .i64 a0_0, .slice A0_1 l0_1.length c0_1], .slice A1 l1.length c1] w fun e w' => ∃ v0_ : Value, e = .returned (v0_) ∧ Kd.R (Kd.int .i64) 3 w' w.heap.size (fun _ => True) v0_ r ∧ Below w.heap.size w w' := by
  have hu29 := Try.underlying29
  have hu79 := Try.underlying79
  have HR0_1 := Aside0.mk hr0_1
  have HC0_1 := Aside0.mk hc0_1
  clear hr0_1 hc0_1
  have HR1 := Aside0.mk hr1
  have HC1 := Aside0.mk hc1
  clear hr1 hc1
  have HB := Aside0.mk (Below.refl w.heap.size w)
  have H : (if 0 ≤ (wrap64 ((wrap64 (a0_0 + 1)) + (l0_1.length : Int))) then (if (wrap64 ((wrap64 (a0_0 + 1)) + (l0_1.length : Int)) : Int).toNat ≤ 35184372088832 then ((some (List.replicate (wrap64 ((wrap64 (a0_0 + 1)) + (l0_1.length : Int)) : Int).toNat 0 : List Int)).bind fun y102 => (if 1 ≤ (y102.length : Int) then (impl_Graph_values.l0 k (y102.take 1 ++ (l1.take (y102.length - 1) ++ y102.drop (1 + l1.length))) l0_1 (l0_1.length : Int) 0 a0_0 l0_1) else (none))) else (none)) else (none)) = some r := h
  clear h
  obtain ⟨ji3, hji3⟩ : ∃ j_ : Int, (wrap64 ((wrap64 (a0_0 + 1)) + (l0_1.length : Int))) = j_ := ⟨_, rfl⟩
  replace H : (if 0 ≤ (ji3) then (if (ji3 : Int).toNat ≤ 35184372088832 then ((some (List.replicate (ji3 : Int).toNat 0 : List Int)).bind fun y102 => (if 1 ≤ (y102.length : Int) then (impl_Graph_values.l0 k (y102.take 1 ++ (l1.take (y102.length - 1) ++ y102.drop (1 + l1.length))) l0_1 (l0_1.length : Int) 0 a0_0 l0_1) else (none))) else (none)) else (none)) = some r := by first | (rw [hji3] at H; exact H) | (simp only [hji3] at H ⊢; exact H)
  have hji3w : (IntKind.i64.wrap ((wrap64 (a0_0 + 1)) + (l0_1.length : Int))) = ji3 := (i64_w _).trans hji3
  by_cases c4 : 0 ≤ (ji3)
  · rw [if_pos c4] at H
    have c4b0 := eq_true c4
    have c4b1 : decide (0 ≤ (ji3)) = true := decide_eq_true c4
    clear c4
    by_cases c5 : (ji3 : Int).toNat ≤ 35184372088832
    · rw [if_pos c5] at H
      have c5b0 := eq_true c5
      have c5b1 : decide ((ji3 : Int).toNat ≤ 35184372088832) = true := decide_eq_true c5
      clear c5
      obtain ⟨y102, hy102⟩ : ∃ y_ : List Int, y_ = (List.replicate (ji3 : Int).toNat 0) := ⟨_, rfl⟩
      replace H : (if 1 ≤ (y102.length : Int) then (impl_Graph_values.l0 k (y102.take 1 ++ (l1.take (y102.length - 1) ++ y102.drop (1 + l1.length))) l0_1 (l0_1.length : Int) 0 a0_0 l0_1) else (none)) = some r := by first | (rw [hy102]; with_reducible exact H) | (have H2_ := (Option.bind_some _ _).symm.trans H; rw [hy102]; with_reducible exact H2_) | (have H2_ := (Option.bind_some _ _).symm.trans H; with_reducible exact H2_) | with_reducible exact H | (rw [hy102]; exact H) | exact H
      have Ny102 := Aside0.mk hy102
      clear hy102
      by_cases c6 : 1 ≤ (y102.length : Int)
      · rw [if_pos c6] at H
        have c6b0 := eq_true c6
        have c6b1 : decide (1 ≤ (y102.length : Int)) = true := decide_eq_true c6
        clear c6
        obtain ⟨y105, hy105⟩ : ∃ y_ : List Int, y_ = (y102.drop 1) := ⟨_, rfl⟩
        replace H : (impl_Graph_values.l0 k (y102.take 1 ++ (l1.take (y102.length - 1) ++ y102.drop (1 + l1.length))) l0_1 (l0_1.length : Int) 0 a0_0 l0_1) = some r := by first | (rw [hy105]; with_reducible exact H) | (have H2_ := (Option.bind_some _ _).symm.trans H; rw [hy105]; with_reducible exact H2_) | (have H2_ := (Option.bind_some _ _).symm.trans H; with_reducible exact H2_) | with_reducible exact H | (rw [hy105]; exact H) | exact H
        have Ny105 := Aside0.mk hy105
        clear hy105
        obtain ⟨y109, hy109⟩ : ∃ y_ : List Int, y_ = (y102.take 1 ++ (l1.take (y102.length - 1) ++ y102.drop (1 + l1.length))) := ⟨_, rfl⟩
        replace H : (impl_Graph_values.l0 k y109 l0_1 (l0_1.length : Int) 0 a0_0 l0_1) = some r := by first | (rw [hy109]; with_reducible exact H) | (have H2_ := (Option.bind_some _ _).symm.trans H; rw [hy109]; with_reducible exact H2_) | (have H2_ := (Option.bind_some _ _).symm.trans H; with_reducible exact H2_) | with_reducible exact H | (rw [hy109]; exact H) | exact H
        have Ny109 := Aside0.mk hy109
        clear hy109
        have H' := Aside0.mk H
        clear H
        go_enter Try.func68, Try.ntmps68
        go_wp2_with (first | ((with_reducible refine gate_dst (N := 2) rfl ?_); refine box_event ?hg (N := 2) ?hd (cs := #[.int .i64 a0_0, .slice A0_1 l0_1.length c0_1]) (t := 29) ?hr ?_; (case hd => rfl); (case hg => rfl); (case hr => first | (go_simp; done) | (go_simp; rfl)); intro gb101 hg w7 hbox hb; have n0_ := Aside0.mk (below_step (by repeat (first | (with_reducible first | exact HB.out | apply below_alloc | apply pw_below_drewN | apply below_drew1) | exact HB.out)) hb); have n1_ := Aside0.mk (hbox); have n2_ := Aside0.mk ((by rw [hg]; exact (below_size (by repeat (first | (with_reducible first | exact HB.out | apply below_alloc | apply pw_below_drewN | apply below_drew1) | exact HB.out))) : w.heap.size ≤ gb101)); have n3_ := Aside0.mk ((by rw [hg]; exact (below_size (by repeat (first | (with_reducible first | exact HB.out | apply below_alloc | apply pw_below_drewN | apply below_drew1) | exact HB.out))) : w.heap.size ≤ gb101)); clear HB; have HB := n0_; have BK101 := n1_; have GW101 := n2_; have GE101 := n3_; clear n0_ n1_ n2_ n3_; clear hb hbox hg; have hcz8_0 : w7.cell? ⟨gb101, 0, none⟩ = some (.int .i64 a0_0) := (blk_cell BK101.out 0).trans rfl; have hcz8_1 : w7.cell? ⟨gb101, 1, none⟩ = some (.slice A0_1 l0_1.length c0_1) := (blk_cell BK101.out 1).trans rfl; have hfz8_0 := blk_frozen BK101.out 0; have hfz8_1 := blk_frozen BK101.out 1) | ((with_reducible refine gate_dst (N := 15) rfl ?_); refine Kd.R_make (Kd.int .i64) _ 3 rfl (N := 15) rfl 40 _ _ rfl ji3 rfl rfl Try.underlying40 (.int .i64 0) 8 info3 rfl (by decide) (by omega) 0 (ok := fun _ => True) (okp := fun _ => True) rfl (fun _ hk => hk) trivial (of_decide_eq_true (by first | (with_reducible assumption) | assumption)) (Nat.le_trans (Nat.mul_le_mul_right _ (of_decide_eq_true (by first | (with_reducible assumption) | assumption) : ji3.toNat ≤ 35184372088832)) (by omega)) (Below.refl _ _) (Nat.le_refl _) ?_; intro v103 w9 ho10 hb hg_ hnew_; clear hg_ hnew_; (first | rw [← Ny102.out] at ho10 | (simp only [Int.reduceToNat] at ho10; rw [← Ny102.out] at ho10)); have n0_ := Aside0.mk (Kd.R_lower ho10 (below_size (by repeat (first | (with_reducible first | exact HB.out | apply below_alloc | apply pw_below_drewN | apply below_drew1 | refine below_set ?_ GE101.out) | exact HB.out)))); have n1_ := Aside0.mk (blk_below (g := gb101) (o := .cells #[.int .i64 a0_0, .slice A0_1 l0_1.length c0_1] 29 (0, 0)) (by (with_reducible repeat (first | refine blk_drewN ?_ _ | refine blk_drew ?_ | refine blk_alloc ?_ _)); exact BK101.out) hb); have n2_ := Aside0.mk (below_step (by repeat (first | (with_reducible first | exact HB.out | apply below_alloc | apply pw_below_drewN | apply below_drew1 | refine below_set ?_ GE101.out) | exact HB.out)) hb); clear BK101; clear HB; have HO104 := n0_; have BK101 := n1_; have HB := n2_; clear n0_ n1_ n2_; clear hb ho10; obtain ⟨Ao12, co12, eo12⟩ := Kd.R_slice HO104.out; subst eo12; have q11 : (1 : Int) ≤ ((y102.length : Int) : Int) := of_decide_eq_true (by first | (with_reducible assumption) | assumption); obtain ⟨i011, hi011, _, hsz11, _⟩ := info_parts info3; have hroom11 : y102.length ≤ co12 := (Kd.R_reads' HO104.out).2.1; have hC11 : Kd.C (Kd.int .i64) _ Ao12 y102.length y102 := (Kd.R_reads' HO104.out).2.2; have hcut11 := cut_from (P := Try.prog) 40 3 .i64 Try.underlying40 hi011 1 hsz11 Ao12 y102.length co12 1 (by omega) q11; have hr11 := Kd.C_drop (m := (1 : Int).toNat) (c := co12) hC11 (by omega) hroom11; obtain ⟨A11, hA11⟩ : ∃ A1, A1 = (if co12 = (1 : Int).toNat then Ao12 else (Ao12 : Option Addr).map (·.add ((1 : Int).toNat * 1))) := ⟨_, rfl⟩; obtain ⟨c11, hc11⟩ : ∃ c1, c1 = co12 - (1 : Int).toNat := ⟨_, rfl⟩; have hy11 : y105.length = y102.length - (1 : Int).toNat := (by rw [Ny105.out, List.length_drop] <;> omega); rw [show (y102).drop (1 : Int).toNat = y105 from Ny105.out.symm] at hr11; replace hr11 : Kd.C (Kd.int .i64) _ A11 y105.length y105 := (by rw [hA11]; exact hr11); rw [← hy11, ← hA11, ← hc11] at hcut11; have HR108 := Aside0.mk hr11; have HC108 := Aside0.mk (show y105.length ≤ c11 from by rw [hy11, hc11]; exact Nat.sub_le_sub_right hroom11 _); clear hr11 hC11 hroom11 hi011 hsz11 hc11; have KY11 := Aside0.mk hy11; have KA11 := Aside0.mk hA11; clear hy11 hA11; have KL11 := Aside0.mk (show 1 ≤ y102.length from by omega); replace q11 := eq_true q11) | ((with_reducible refine gate_builtin (b := .copy) (xs := #[.tmp 17, .tmp 18]) rfl ?_); have hl_ : (1 : Int) ≤ ((y102.length : Int) : Int) := of_decide_eq_true (by first | (with_reducible assumption) | assumption); have hb_ := (Kd.R_reads' HO104.out).1; obtain ⟨gd14, cap_, ev_, _⟩ := Kd.R_form HO104.out (by omega); injection ev_ with ea_ en_ ec_; subst ea_; clear en_ ec_; refine copy_at (enc := (Value.int .i64)) (d := 0) (w0 := w) w.heap.size rfl (.tmp 17) (.tmp 18) 40 40 3 rfl Try.underlying40 (by kernel_rfl) (g := gd14) (n := y102.length) (c := co12) (L := 1) (xs := y102) (ys := l1) rfl rfl ?hA ?hn ?hL (by (with_reducible repeat (first | apply Kd.R_alloc | apply Kd.R_drewN | apply Kd.R_drew)); exact HO104.out) ?hR (by repeat (first | (with_reducible first | exact HB.out | apply below_alloc | apply pw_below_drewN | apply below_drew1 | refine below_set ?_ GE101.out) | exact HB.out)) (below_size (by repeat (first | (with_reducible first | exact HB.out | apply below_alloc | apply pw_below_drewN | apply below_drew1 | refine below_set ?_ GE101.out) | exact HB.out))) ?_; (case hA => have ha_ := KA11.out; simpa using ha_); (case hn => have ha_ := KY11.out; omega); (case hL => omega); (case hR => repeat (first | exact (Kd.C_below HR1.out HB.out) | (with_reducible refine Kd.C_alloc ?_ _) | (with_reducible refine Kd.C_drewN ?_ _) | (with_reducible refine Kd.C_drew ?_))); intro w13 ho hb hg; clear hl_ hb_; rw [← Ny109.out] at ho; have n0_ := Aside0.mk (blk_grown (g := gb101) (o := .cells #[.int .i64 a0_0, .slice A0_1 l0_1.length c0_1] 29 (0, 0)) (by (with_reducible repeat (first | refine blk_drewN ?_ _ | refine blk_drew ?_ | refine blk_alloc ?_ _)); exact BK101.out) hg (Kd.R_ne HO104.out BK101.out (by decide))); have n1_ := Aside0.mk (ho); have n2_ := Aside0.mk (hb); clear BK101; clear HO104; clear HB; have BK101 := n0_; have HO104 := n1_; have HB := n2_; clear n0_ n1_ n2_; clear ho hb hg; have hcz15_0 : w13.cell? ⟨gb101, 0, none⟩ = some (.int .i64 a0_0) := (blk_cell BK101.out 0).trans rfl; have hcz15_1 : w13.cell? ⟨gb101, 1, none⟩ = some (.slice A0_1 l0_1.length c0_1) := (blk_cell BK101.out 1).trans rfl; have hfz15_0 := blk_frozen BK101.out 0; have hfz15_1 := blk_frozen BK101.out 1))
        go_loopg [23] k (fun kq v23 w' => ∃ (x5_1 : List Int) (x23_1 : Int), v23 = .int .i64 x23_1 ∧ Aside0 (impl_Graph_values.l0 kq x5_1 l0_1 (l0_1.length : Int) x23_1 a0_0 l0_1 = some r) ∧ Aside0 (kq ≤ k) ∧ Aside0 (Kd.R (Kd.int .i64) 3 w' w.heap.size (fun _ => True) (.slice (some ⟨gd14, 0, none⟩) y102.length co12) x5_1) ∧ Aside0 (w'.heap[gb101]? = some (.cells #[.int .i64 a0_0, (.slice A0_1 l0_1.length c0_1)] 29 (0, 0))) ∧ Aside0 (Below w.heap.size w w'))
        case atStart => exact ⟨(y109), (0), (by first | rfl | (simp; done) | (simp [*]; done)), H', ⟨Nat.le_refl _⟩, ⟨by (with_reducible repeat (first | apply Kd.R_alloc | apply Kd.R_drewN | apply Kd.R_drew)); exact HO104.out⟩, ⟨by (with_reducible repeat (first | refine blk_drewN ?_ _ | refine blk_drew ?_ | refine blk_alloc ?_ _)); exact BK101.out⟩, ⟨by repeat (first | (with_reducible first | exact HB.out | apply below_alloc | apply pw_below_drewN | apply below_drew1 | refine below_set ?_ GE101.out) | exact HB.out)⟩⟩
        case round =>
          clear H'
          try clear c1
          try clear q1
          try clear p2
          try clear c4
          try clear c4b0
          try clear c4b1
          try clear c5
          try clear c5b0
          try clear c5b1
          try clear c6
          try clear c6b0
          try clear c6b1
          try clear p6
          try clear c11
          try clear q11
          try clear hcz15_0
          try clear hcz15_1
          try clear hcz8_0
          try clear hcz8_1
          try clear hfz15_0
          try clear hfz15_1
          try clear hfz8_0
          try clear hfz8_1
          try clear q11
          obtain ⟨x5_1, x23_1, rfl, HA, HK1, HO_5, BK101, HB⟩ := hrel
          have hl5_1 := (Kd.R_reads' HO_5.out).1
          rw [hl5_1] at HO_5
          (try simp only [hl5_1])
          (try simp only [hl5_1] at BK101)
          cases gk with
          | zero => exact absurd HA.out (by simp [impl_Graph_values.l0])
          | succ k1 =>
            have H := HA.out
            clear HA
            simp only [impl_Graph_values.l0] at H
            by_cases c16 : x23_1 < (l0_1.length : Int)
            · rw [if_pos c16] at H
              have c16b0 : decide (x23_1 < (l0_1.length : Int)) = true := decide_eq_true c16
              clear c16
              (try (have c16h0 := c16b0; simp only [hl5_1] at c16h0))
              by_cases c17 : 0 ≤ x23_1
              · rw [if_pos c17] at H
                have c17b0 : decide (0 ≤ x23_1) = true := decide_eq_true c17
                clear c17
                by_cases c18 : x23_1 < (l0_1.length : Int)
                · rw [if_pos c18] at H
                  have c18b0 : decide (x23_1 < (l0_1.length : Int)) = true := decide_eq_true c18
                  clear c18
                  (try (have c18h0 := c18b0; simp only [hl5_1] at c18h0))
                  obtain ⟨ji19, hji19⟩ : ∃ j_ : Int, (wrap64 (Int.tdiv ((rd_T79 l0_1 x23_1).f0) 2)) = j_ := ⟨_, rfl⟩
                  replace H : (if 0 ≤ (ji19) then (if (ji19) < (x5_1.length : Int) then (if 0 ≤ (wrap64 (Int.tdiv ((rd_T79 l0_1 x23_1).f1) 2)) then (if (wrap64 (Int.tdiv ((rd_T79 l0_1 x23_1).f1) 2)) < (x5_1.length : Int) then (if 0 ≤ (wrap64 ((wrap64 (a0_0 + 1)) + x23_1)) then (if (wrap64 ((wrap64 (a0_0 + 1)) + x23_1)) < (x5_1.length : Int) then (impl_Graph_values.l0 k1 (x5_1.set ((wrap64 ((wrap64 (a0_0 + 1)) + x23_1)) : Int).toNat (Go.bits .and .i64 (Go.bits .xor .i64 (rd x5_1 (ji19)) (Go.bits .and .i64 ((rd_T79 l0_1 x23_1).f0) 1)) (Go.bits .xor .i64 (rd x5_1 (wrap64 (Int.tdiv ((rd_T79 l0_1 x23_1).f1) 2))) (Go.bits .and .i64 ((rd_T79 l0_1 x23_1).f1) 1)))) l0_1 (l0_1.length : Int) (wrap64 (x23_1 + 1)) a0_0 l0_1) else (none)) else (none)) else (none)) else (none)) else (none)) else (none)) = some r := by first | (rw [hji19] at H; exact H) | (simp only [hji19] at H ⊢; exact H)
                  have hji19w : (IntKind.i64.wrap (Int.tdiv ((rd_T79 l0_1 x23_1).f0) 2)) = ji19 := (i64_w _).trans hji19
                  by_cases c20 : 0 ≤ (ji19)
                  · rw [if_pos c20] at H
                    have c20b0 : decide (0 ≤ (ji19)) = true := decide_eq_true c20
                    clear c20
                    by_cases c21 : (ji19) < (x5_1.length : Int)
                    · rw [if_pos c21] at H
                      have c21b0 : decide ((ji19) < (x5_1.length : Int)) = true := decide_eq_true c21
                      clear c21
                      (try (have c21h0 := c21b0; simp only [hl5_1] at c21h0))
                      obtain ⟨ji22, hji22⟩ : ∃ j_ : Int, (wrap64 (Int.tdiv ((rd_T79 l0_1 x23_1).f1) 2)) = j_ := ⟨_, rfl⟩
                      replace H : (if 0 ≤ (ji22) then (if (ji22) < (x5_1.length : Int) then (if 0 ≤ (wrap64 ((wrap64 (a0_0 + 1)) + x23_1)) then (if (wrap64 ((wrap64 (a0_0 + 1)) + x23_1)) < (x5_1.length : Int) then (impl_Graph_values.l0 k1 (x5_1.set ((wrap64 ((wrap64 (a0_0 + 1)) + x23_1)) : Int).toNat (Go.bits .and .i64 (Go.bits .xor .i64 (rd x5_1 (ji19)) (Go.bits .and .i64 ((rd_T79 l0_1 x23_1).f0) 1)) (Go.bits .xor .i64 (rd x5_1 (ji22)) (Go.bits .and .i64 ((rd_T79 l0_1 x23_1).f1) 1)))) l0_1 (l0_1.length : Int) (wrap64 (x23_1 + 1)) a0_0 l0_1) else (none)) else (none)) else (none)) else (none)) = some r := by first | (rw [hji22] at H; exact H) | (simp only [hji22] at H ⊢; exact H)
                      have hji22w : (IntKind.i64.wrap (Int.tdiv ((rd_T79 l0_1 x23_1).f1) 2)) = ji22 := (i64_w _).trans hji22
                      by_cases c23 : 0 ≤ (ji22)
                      · rw [if_pos c23] at H
                        have c23b0 : decide (0 ≤ (ji22)) = true := decide_eq_true c23
                        clear c23
                        by_cases c24 : (ji22) < (x5_1.length : Int)
                        · rw [if_pos c24] at H
                          have c24b0 : decide ((ji22) < (x5_1.length : Int)) = true := decide_eq_true c24
                          clear c24
                          (try (have c24h0 := c24b0; simp only [hl5_1] at c24h0))
                          obtain ⟨ji25, hji25⟩ : ∃ j_ : Int, (wrap64 ((wrap64 (a0_0 + 1)) + x23_1)) = j_ := ⟨_, rfl⟩
                          replace H : (if 0 ≤ (ji25) then (if (ji25) < (x5_1.length : Int) then (impl_Graph_values.l0 k1 (x5_1.set ((ji25) : Int).toNat (Go.bits .and .i64 (Go.bits .xor .i64 (rd x5_1 (ji19)) (Go.bits .and .i64 ((rd_T79 l0_1 x23_1).f0) 1)) (Go.bits .xor .i64 (rd x5_1 (ji22)) (Go.bits .and .i64 ((rd_T79 l0_1 x23_1).f1) 1)))) l0_1 (l0_1.length : Int) (wrap64 (x23_1 + 1)) a0_0 l0_1) else (none)) else (none)) = some r := by first | (rw [hji25] at H; exact H) | (simp only [hji25] at H ⊢; exact H)
                          have hji25w : (IntKind.i64.wrap ((wrap64 (a0_0 + 1)) + x23_1)) = ji25 := (i64_w _).trans hji25
                          by_cases c26 : 0 ≤ (ji25)
                          · rw [if_pos c26] at H
                            have c26b0 : decide (0 ≤ (ji25)) = true := decide_eq_true c26
                            clear c26
                            by_cases c27 : (ji25) < (x5_1.length : Int)
                            · rw [if_pos c27] at H
                              have c27b0 : decide ((ji25) < (x5_1.length : Int)) = true := decide_eq_true c27
                              clear c27
                              (try (have c27h0 := c27b0; simp only [hl5_1] at c27h0))
                              obtain ⟨y114, hy114⟩ : ∃ y_ : List Int, y_ = (x5_1.set ((ji25) : Int).toNat (Go.bits .and .i64 (Go.bits .xor .i64 (rd x5_1 (ji19)) (Go.bits .and .i64 ((rd_T79 l0_1 x23_1).f0) 1)) (Go.bits .xor .i64 (rd x5_1 (ji22)) (Go.bits .and .i64 ((rd_T79 l0_1 x23_1).f1) 1)))) := ⟨_, rfl⟩
                              replace H : (impl_Graph_values.l0 k1 y114 l0_1 (l0_1.length : Int) (wrap64 (x23_1 + 1)) a0_0 l0_1) = some r := by first | (rw [hy114]; with_reducible exact H) | (have H2_ := (Option.bind_some _ _).symm.trans H; rw [hy114]; with_reducible exact H2_) | (have H2_ := (Option.bind_some _ _).symm.trans H; with_reducible exact H2_) | with_reducible exact H | (rw [hy114]; exact H) | exact H
                              have Ny114 := Aside0.mk hy114
                              clear hy114
                              have H' := Aside0.mk H
                              clear H
                              have p110 : 0 ≤ (x23_1 : Int) := of_decide_eq_true (by first | (with_reducible assumption) | assumption)
                              have q110 : x23_1 < (l0_1.length : Int) := of_decide_eq_true (by first | (with_reducible assumption) | assumption)
                              obtain ⟨ad110, e110, hx110_0, hx110_1⟩ := at_T79 HR0_1.out x23_1 p110 q110
                              cases e110
                              replace hx110_0 := (HB.out.cell (World.block_lt_of_cell? w _ hx110_0)).trans hx110_0
                              replace hx110_1 := (HB.out.cell (World.block_lt_of_cell? w _ hx110_1)).trans hx110_1
                              replace p110 := eq_true p110
                              replace q110 := eq_true q110
                              try go_wp2_with (first | ((with_reducible refine gate_dst (N := 7) rfl ?_); refine box_event ?hg (N := 7) ?hd (cs := #[.int .i64 0, .int .i64 0]) (t := 79) ?hr ?_; (case hd => rfl); (case hg => rfl); (case hr => first | (go_simp; done) | (go_simp; rfl)); intro gb111 hg w29 hbox hb; have n0_ := Aside0.mk (Kd.R_below (by (with_reducible repeat (first | apply Kd.R_alloc | apply Kd.R_drewN | apply Kd.R_drew)); exact HO_5.out) hb); have n1_ := Aside0.mk (blk_below (g := gb101) (o := .cells #[.int .i64 a0_0, .slice (some ad110) l0_1.length c0_1] 29 (0, 0)) (by (with_reducible repeat (first | refine blk_drewN ?_ _ | refine blk_drew ?_ | refine blk_alloc ?_ _)); exact BK101.out) hb); have n2_ := Aside0.mk (below_step (by repeat (first | (with_reducible first | exact HB.out | apply below_alloc | apply pw_below_drewN | apply below_drew1 | refine below_set ?_ GE101.out) | exact HB.out)) hb); have n3_ := Aside0.mk (hbox); have n4_ := Aside0.mk ((by rw [hg]; exact (below_size (by repeat (first | (with_reducible first | exact HB.out | apply below_alloc | apply pw_below_drewN | apply below_drew1 | refine below_set ?_ GE101.out) | exact HB.out))) : w.heap.size ≤ gb111)); have n5_ := Aside0.mk ((by rw [hg]; exact (below_size (by repeat (first | (with_reducible first | exact HB.out | apply below_alloc | apply pw_below_drewN | apply below_drew1 | refine below_set ?_ GE101.out) | exact HB.out))) : w.heap.size ≤ gb111)); have n6_ := Aside0.mk ((by rw [hg]; exact Nat.ne_of_lt (blk_lt (g := gb101) (o := .cells #[.int .i64 a0_0, .slice (some ad110) l0_1.length c0_1] 29 (0, 0)) (by (with_reducible repeat (first | refine blk_drewN ?_ _ | refine blk_drew ?_ | refine blk_alloc ?_ _)); exact BK101.out)) : gb101 ≠ gb111)); have n7_ := Aside0.mk ((by rw [hg]; exact Nat.ne_of_gt (blk_lt (g := gb101) (o := .cells #[.int .i64 a0_0, .slice (some ad110) l0_1.length c0_1] 29 (0, 0)) (by (with_reducible repeat (first | refine blk_drewN ?_ _ | refine blk_drew ?_ | refine blk_alloc ?_ _)); exact BK101.out)) : gb111 ≠ gb101)); clear HO_5; clear BK101; clear HB; have HO_5 := n0_; have BK101 := n1_; have HB := n2_; have BK111 := n3_; have GW111 := n4_; have GE111 := n5_; have NB101_111 := n6_; have NB111_101 := n7_; clear n0_ n1_ n2_ n3_ n4_ n5_ n6_ n7_; clear hb hbox hg; have hnb30 := NB111_101.out; have hnc30 := NB101_111.out; have hcz31_0 : w29.cell? ⟨gb111, 0, none⟩ = some (.int .i64 0) := (blk_cell BK111.out 0).trans rfl; have hcz31_1 : w29.cell? ⟨gb111, 1, none⟩ = some (.int .i64 0) := (blk_cell BK111.out 1).trans rfl; have hfz31_0 := blk_frozen BK111.out 0; have hfz31_1 := blk_frozen BK111.out 1))
                              have n0_ : Aside0 (Kd.R (Kd.int .i64) 3 ((w29.setCell ⟨gb111, 0, none⟩ (.int .i64 ((rd_T79 l0_1 x23_1).f0))).setCell ⟨gb111, 1, none⟩ (.int .i64 ((rd_T79 l0_1 x23_1).f1))) w.heap.size (fun _ => True) (.slice (some ⟨gd14, 0, none⟩) x5_1.length co12) x5_1) := ⟨by (with_reducible repeat (first | apply Kd.R_alloc | apply Kd.R_drewN | apply Kd.R_drew)); exact Kd.R_mono (Kd.R_far (p := ⟨gb111, 1, none⟩) (Kd.R_far (p := ⟨gb111, 0, none⟩) (Kd.R_types HO_5.out BK111.out (by decide)) (fun _ hk => hk.2) (.int .i64 ((rd_T79 l0_1 x23_1).f0))) (fun _ hk => hk.2) (.int .i64 ((rd_T79 l0_1 x23_1).f1))) (fun _ hk => trivial)⟩
                              have n1_ : Aside0 (((w29.setCell ⟨gb111, 0, none⟩ (.int .i64 ((rd_T79 l0_1 x23_1).f0))).setCell ⟨gb111, 1, none⟩ (.int .i64 ((rd_T79 l0_1 x23_1).f1))).heap[gb101]? = some (.cells #[.int .i64 a0_0, .slice (some ad110) l0_1.length c0_1] 29 (0, 0))) := ⟨by (with_reducible repeat (first | refine blk_drewN ?_ _ | refine blk_drew ?_ | refine blk_alloc ?_ _)); refine blk_far ?_ NB101_111.out _; (with_reducible repeat (first | refine blk_drewN ?_ _ | refine blk_drew ?_ | refine blk_alloc ?_ _)); refine blk_far ?_ NB101_111.out _; (with_reducible repeat (first | refine blk_drewN ?_ _ | refine blk_drew ?_ | refine blk_alloc ?_ _)); exact BK101.out⟩
                              have n2_ : Aside0 (((w29.setCell ⟨gb111, 0, none⟩ (.int .i64 ((rd_T79 l0_1 x23_1).f0))).setCell ⟨gb111, 1, none⟩ (.int .i64 ((rd_T79 l0_1 x23_1).f1))).heap[gb111]? = some (.cells #[.int .i64 ((rd_T79 l0_1 x23_1).f0), .int .i64 ((rd_T79 l0_1 x23_1).f1)] 79 (0, 0))) := ⟨by (with_reducible repeat (first | refine blk_drewN ?_ _ | refine blk_drew ?_ | refine blk_alloc ?_ _)); refine blk_put (cs := #[.int .i64 ((rd_T79 l0_1 x23_1).f0), .int .i64 0]) ?_ 1 _ rfl; (with_reducible repeat (first | refine blk_drewN ?_ _ | refine blk_drew ?_ | refine blk_alloc ?_ _)); refine blk_put (cs := #[.int .i64 0, .int .i64 0]) ?_ 0 _ rfl; (with_reducible repeat (first | refine blk_drewN ?_ _ | refine blk_drew ?_ | refine blk_alloc ?_ _)); exact BK111.out⟩
                              have n3_ : Aside0 (Below w.heap.size w ((w29.setCell ⟨gb111, 0, none⟩ (.int .i64 ((rd_T79 l0_1 x23_1).f0))).setCell ⟨gb111, 1, none⟩ (.int .i64 ((rd_T79 l0_1 x23_1).f1)))) := ⟨by repeat (first | (with_reducible first | exact HB.out | apply below_alloc | apply pw_below_drewN | apply below_drew1 | refine below_set ?_ GE101.out | refine below_set ?_ GE111.out) | exact HB.out)⟩
                              (try clear HO_5)
                              (try clear BK101)
                              (try clear BK111)
                              (try clear HB)
                              generalize ((w29.setCell ⟨gb111, 0, none⟩ (.int .i64 ((rd_T79 l0_1 x23_1).f0))).setCell ⟨gb111, 1, none⟩ (.int .i64 ((rd_T79 l0_1 x23_1).f1))) = w32 at n0_ n1_ n2_ n3_ ⊢
                              have HO_5 := n0_
                              have BK101 := n1_
                              have BK111 := n2_
                              have HB := n3_
                              clear n0_ n1_ n2_ n3_
                              have n0_ := Aside0.mk (Kd.R_drew HO_5.out)
                              have n1_ := Aside0.mk (blk_drew BK101.out)
                              have n2_ := Aside0.mk (blk_drew BK111.out)
                              have n3_ := Aside0.mk (below_drew1 HB.out)
                              clear HO_5
                              clear BK101
                              clear BK111
                              clear HB
                              have HO_5 := n0_
                              have BK101 := n1_
                              have BK111 := n2_
                              have HB := n3_
                              clear n0_ n1_ n2_ n3_
                              have p112 : 0 ≤ ((ji19) : Int) := of_decide_eq_true (by first | (with_reducible assumption) | assumption)
                              have q112 : (ji19) < (x5_1.length : Int) := of_decide_eq_true (by first | (with_reducible assumption) | assumption)
                              obtain ⟨ad112, e112, hx112_0⟩ := Kd.at_int (Kd.R_reads' HO_5.out).2.2 (ji19) p112 q112
                              obtain rfl : (⟨gd14, 0, none⟩ : Addr) = ad112 := (by injection e112)
                              (first | simp only [add_plain] at hx112_0 | simp only [add_at] at hx112_0 | simp only [Addr.add, Nat.zero_add] at hx112_0 | skip)
                              replace p112 := eq_true p112
                              replace q112 := eq_true q112
                              have p113 : 0 ≤ ((ji22) : Int) := of_decide_eq_true (by first | (with_reducible assumption) | assumption)
                              have q113 : (ji22) < (x5_1.length : Int) := of_decide_eq_true (by first | (with_reducible assumption) | assumption)
                              obtain ⟨ad113, e113, hx113_0⟩ := Kd.at_int (Kd.R_reads' HO_5.out).2.2 (ji22) p113 q113
                              obtain rfl : (⟨gd14, 0, none⟩ : Addr) = ad113 := (by injection e113)
                              (first | simp only [add_plain] at hx113_0 | simp only [add_at] at hx113_0 | simp only [Addr.add, Nat.zero_add] at hx113_0 | skip)
                              replace p113 := eq_true p113
                              replace q113 := eq_true q113
                              have p28 : 0 ≤ ((ji25) : Int) := of_decide_eq_true (by first | (with_reducible assumption) | assumption)
                              have q28 : ((ji25) : Int) < ((x5_1.length : Int) : Int) := of_decide_eq_true (by first | (with_reducible assumption) | assumption)
                              obtain ⟨go28, co28, eo28, gb28, gl28, cl28, HG28⟩ := Kd.R_form HO_5.out (by omega)
                              (first | cases eo28 | (injection eo28 with ea_ en_ ec_; (first | subst ea_ | (injection ea_ with ea_; subst ea_)); subst ec_; clear en_))
                              have GB28 := Aside0.mk gb28
                              have GG28 := Aside0.mk HG28
                              clear gb28 gl28 HG28
                              obtain ⟨hx28_0, hf28_0⟩ := Kd.R_celln 0 HO_5.out ((ji25) : Int) p28 q28
                              replace p28 := eq_true p28
                              replace q28 := eq_true q28
                              have HP34 := Kd.R_putn HO_5.out ((ji25) : Int) (Go.bits .and .i64 (Go.bits .xor .i64 (rd x5_1 (ji19)) (Go.bits .and .i64 ((rd_T79 l0_1 x23_1).f0) 1)) (Go.bits .xor .i64 (rd x5_1 (ji22)) (Go.bits .and .i64 ((rd_T79 l0_1 x23_1).f1) 1)))
                              rw [← Ny114.out] at HP34
                              have HQ34 := Aside0.mk HP34
                              clear HP34
                              refine start_ (n := 29) (S := fun w' => w'.cell? ⟨gb101, 0, none⟩ = some (.int .i64 a0_0) ∧ w'.cell? ⟨gb101, 1, none⟩ = some (.slice (some ad110) l0_1.length c0_1) ∧ w'.cell? ⟨gb111, 0, none⟩ = some (.int .i64 ((rd_T79 l0_1 x23_1).f0)) ∧ w'.cell? ⟨gb111, 1, none⟩ = some (.int .i64 ((rd_T79 l0_1 x23_1).f1)) ∧ w'.cell? ⟨gd14, ((ji19)).toNat, none⟩ = some (.int .i64 (rd x5_1 (ji19))) ∧ w'.cell? ⟨gd14, ((ji22)).toNat, none⟩ = some (.int .i64 (rd x5_1 (ji22)))) (ds := [28]) #[false, false, false, false, false, false, false, false, false, false, false, false, false, false, false, false, false, false, false, false, false, false, false, false, false, false, false, false, false] (by kernel_rfl) rfl rfl ⟨(blk_cell BK101.out 0).trans rfl, (blk_cell BK101.out 1).trans rfl, (blk_cell BK111.out 0).trans rfl, (blk_cell BK111.out 1).trans rfl, hx112_0, hx113_0⟩ (fun hHeld => ?_); refine with_tabW impl_Graph_values.tab6 impl_Graph_values.bits6 (fun HT_ HW_ => ?_)
                              generalize w32.drew = w33 at HO_5 BK101 BK111 HB GG28 HQ34 hf28_0 hx112_0 hx113_0 hx28_0 hHeld ⊢
                              refine pure_ (i := 0) (N := some 28) (v := ?_) (a' := ?_) #[true, false, false, false, false, false, false, false, false, false, false, false, false, false, false, false, false, false, false, false, false, false, false, false, false, false, false, false, false] rfl rfl (any_of HT_.out (by kernel_rfl)) (fun _ _ _ h => h) (Or.inl ⟨by rfl, ?_⟩) ?_ ?_
                              rotate_left
                              · intro w'
                                go_simp
                                with_reducible rfl
                              rotate_left
                              · simp only [Act.put, List.setIfInBounds_toArray, List.set_cons_zero, List.set_cons_succ, i64_w, i32_w]
                                rfl
                              refine pure_ (i := 1) (N := some 29) (v := ?_) (a' := ?_) #[true, true, false, false, false, false, false, false, false, false, false, false, false, false, false, false, false, false, false, false, false, false, false, false, false, false, false, false, false] rfl rfl (any_of HT_.out (by kernel_rfl)) (fun _ _ _ h => h) (Or.inl ⟨by rfl, ?_⟩) ?_ ?_
                              rotate_left
                              · intro w'
                                go_simp
                                with_reducible rfl
                              rotate_left
                              · simp only [Act.put, List.setIfInBounds_toArray, List.set_cons_zero, List.set_cons_succ, i64_w, i32_w]
                                rfl
                              refine pure_ (i := 4) (N := some 32) (v := ?_) (a' := ?_) #[true, true, false, false, true, false, false, false, false, false, false, false, false, false, false, false, false, false, false, false, false, false, false, false, false, false, false, false, false] rfl rfl (any_of HT_.out (by kernel_rfl)) (fun _ _ _ h => h) (Or.inl ⟨by rfl, ?_⟩) ?_ ?_
                              rotate_left
                              · intro w'
                                go_simp
                                with_reducible rfl
                              rotate_left
                              · simp only [Act.put, List.setIfInBounds_toArray, List.set_cons_zero, List.set_cons_succ, i64_w, i32_w]
                                rfl
                              refine pure_ (i := 6) (N := some 34) (v := ?_) (a' := ?_) #[true, true, false, false, true, false, true, false, false, false, false, false, false, false, false, false, false, false, false, false, false, false, false, false, false, false, false, false, false] rfl rfl (any_of HT_.out (by kernel_rfl)) (fun _ _ _ h => h) (Or.inl ⟨by rfl, ?_⟩) ?_ ?_
                              rotate_left
                              · intro w'
                                go_simp
                                with_reducible rfl
                              rotate_left
                              · simp only [Act.put, List.setIfInBounds_toArray, List.set_cons_zero, List.set_cons_succ, i64_w, i32_w]
                                rfl
                              refine pure_ (i := 7) (N := some 35) (v := ?_) (a' := ?_) #[true, true, false, false, true, false, true, true, false, false, false, false, false, false, false, false, false, false, false, false, false, false, false, false, false, false, false, false, false] rfl rfl (any_of HT_.out (by kernel_rfl)) (fun _ _ _ h => h) (Or.inl ⟨by rfl, ?_⟩) ?_ ?_
                              rotate_left
                              · intro w'
                                go_simp
                                with_reducible rfl
                              rotate_left
                              · simp only [Act.put, List.setIfInBounds_toArray, List.set_cons_zero, List.set_cons_succ, i64_w, i32_w]
                                rfl
                              refine pure_ (i := 12) (N := some 40) (v := ?_) (a' := ?_) #[true, true, false, false, true, false, true, true, false, false, false, false, true, false, false, false, false, false, false, false, false, false, false, false, false, false, false, false, false] rfl rfl (any_of HT_.out (by kernel_rfl)) (fun _ _ _ h => h) (Or.inl ⟨by rfl, ?_⟩) ?_ ?_
                              rotate_left
                              · intro w'
                                go_simp
                                with_reducible rfl
                              rotate_left
                              · simp only [Act.put, List.setIfInBounds_toArray, List.set_cons_zero, List.set_cons_succ, i64_w, i32_w]
                                rfl
                              refine pure_ (i := 16) (N := some 44) (v := ?_) (a' := ?_) #[true, true, false, false, true, false, true, true, false, false, false, false, true, false, false, false, true, false, false, false, false, false, false, false, false, false, false, false, false] rfl rfl (any_of HT_.out (by kernel_rfl)) (fun _ _ _ h => h) (Or.inl ⟨by rfl, ?_⟩) ?_ ?_
                              rotate_left
                              · intro w'
                                go_simp
                                with_reducible rfl
                              rotate_left
                              · simp only [Act.put, List.setIfInBounds_toArray, List.set_cons_zero, List.set_cons_succ, i64_w, i32_w]
                                rfl
                              refine pure_ (i := 17) (N := some 45) (v := ?_) (a' := ?_) #[true, true, false, false, true, false, true, true, false, false, false, false, true, false, false, false, true, true, false, false, false, false, false, false, false, false, false, false, false] rfl rfl (any_of HT_.out (by kernel_rfl)) (fun _ _ _ h => h) (Or.inl ⟨by rfl, ?_⟩) ?_ ?_
                              rotate_left
                              · intro w'
                                go_simp
                                with_reducible rfl
                              rotate_left
                              · simp only [Act.put, List.setIfInBounds_toArray, List.set_cons_zero, List.set_cons_succ, i64_w, i32_w]
                                rfl
                              refine pure_ (i := 22) (N := some 50) (v := ?_) (a' := ?_) #[true, true, false, false, true, false, true, true, false, false, false, false, true, false, false, false, true, true, false, false, false, false, true, false, false, false, false, false, false] rfl rfl (any_of HT_.out (by kernel_rfl)) (fun _ _ _ h => h) (Or.inl ⟨by rfl, ?_⟩) ?_ ?_
                              rotate_left
                              · intro w'
                                go_simp
                                with_reducible rfl
                              rotate_left
                              · simp only [Act.put, List.setIfInBounds_toArray, List.set_cons_zero, List.set_cons_succ, i64_w, i32_w]
                                rfl
                              refine take_ (i := 2) (N := some 30) (v := ?_) (a' := ?_) #[true, true, true, false, true, false, true, true, false, false, false, false, true, false, false, false, true, true, false, false, false, false, true, false, false, false, false, false, false] rfl rfl (take_ofW HT_.out HW_.out (by kernel_rfl)) (fun _ _ _ h => h) (Or.inl ⟨by rfl, ?_⟩) hHeld ?_ ?_
                              rotate_left
                              · rintro w' ⟨s0, s1, s2, s3, s4, s5⟩
                                go_simp
                                with_reducible rfl
                              rotate_left
                              · simp only [Act.put, List.setIfInBounds_toArray, List.set_cons_zero, List.set_cons_succ, i64_w, i32_w]
                                rfl
                              refine pure_ (i := 3) (N := some 31) (v := ?_) (a' := ?_) #[true, true, true, true, true, false, true, true, false, false, false, false, true, false, false, false, true, true, false, false, false, false, true, false, false, false, false, false, false] rfl rfl (any_of HT_.out (by kernel_rfl)) (fun _ _ _ h => h) (Or.inl ⟨by rfl, ?_⟩) ?_ ?_
                              rotate_left
                              · intro w'
                                go_simp
                                with_reducible rfl
                              rotate_left
                              · simp only [Act.put, List.setIfInBounds_toArray, List.set_cons_zero, List.set_cons_succ, i64_w, i32_w]
                                rfl
                              refine pure_ (i := 5) (N := some 33) (v := ?_) (a' := ?_) #[true, true, true, true, true, true, true, true, false, false, false, false, true, false, false, false, true, true, false, false, false, false, true, false, false, false, false, false, false] rfl rfl (any_of HT_.out (by kernel_rfl)) (fun _ _ _ h => h) (Or.inl ⟨by rfl, ?_⟩) ?_ ?_
                              rotate_left
                              · intro w'
                                go_simp
                                with_reducible rfl
                              rotate_left
                              · simp only [Act.put, List.setIfInBounds_toArray, List.set_cons_zero, List.set_cons_succ, i64_w, i32_w]
                                rfl
                              refine take_ (i := 8) (N := some 36) (v := ?_) (a' := ?_) #[true, true, true, true, true, true, true, true, true, false, false, false, true, false, false, false, true, true, false, false, false, false, true, false, false, false, false, false, false] rfl rfl (take_ofW HT_.out HW_.out (by kernel_rfl)) (fun _ _ _ h => h) (Or.inl ⟨by rfl, ?_⟩) hHeld ?_ ?_
                              rotate_left
                              · rintro w' ⟨s0, s1, s2, s3, s4, s5⟩
                                go_simp
                                with_reducible rfl
                              rotate_left
                              · simp only [Act.put, List.setIfInBounds_toArray, List.set_cons_zero, List.set_cons_succ, i64_w, i32_w]
                                rfl
                              refine pure_ (i := 9) (N := some 37) (v := ?_) (a' := ?_) #[true, true, true, true, true, true, true, true, true, true, false, false, true, false, false, false, true, true, false, false, false, false, true, false, false, false, false, false, false] rfl rfl (any_of HT_.out (by kernel_rfl)) (fun _ _ _ h => h) (Or.inl ⟨by rfl, ?_⟩) ?_ ?_
                              rotate_left
                              · intro w'
                                go_simp
                                with_reducible rfl
                              rotate_left
                              · simp only [Act.put, List.setIfInBounds_toArray, List.set_cons_zero, List.set_cons_succ, i64_w, i32_w]
                                rfl
                              refine pure_ (i := 10) (N := some 38) (v := ?_) (a' := ?_) #[true, true, true, true, true, true, true, true, true, true, true, false, true, false, false, false, true, true, false, false, false, false, true, false, false, false, false, false, false] rfl rfl (any_of HT_.out (by kernel_rfl)) (fun _ _ _ h => h) (Or.inl ⟨by rfl, ?_⟩) ?_ ?_
                              rotate_left
                              · intro w'
                                go_simp
                                with_reducible rfl
                              rotate_left
                              · simp only [Act.put, List.setIfInBounds_toArray, List.set_cons_zero, List.set_cons_succ, i64_w, i32_w]
                                rfl
                              refine take_ (i := 11) (N := some 39) (v := ?_) (a' := ?_) #[true, true, true, true, true, true, true, true, true, true, true, true, true, false, false, false, true, true, false, false, false, false, true, false, false, false, false, false, false] rfl rfl (take_ofW HT_.out HW_.out (by kernel_rfl)) (fun _ _ _ h => h) (Or.inl ⟨by rfl, ?_⟩) hHeld ?_ ?_
                              rotate_left
                              · rintro w' ⟨s0, s1, s2, s3, s4, s5⟩
                                go_simp
                                with_reducible rfl
                              rotate_left
                              · simp only [Act.put, List.setIfInBounds_toArray, List.set_cons_zero, List.set_cons_succ, i64_w, i32_w]
                                rfl
                              refine take_ (i := 13) (N := some 41) (v := ?_) (a' := ?_) #[true, true, true, true, true, true, true, true, true, true, true, true, true, true, false, false, true, true, false, false, false, false, true, false, false, false, false, false, false] rfl rfl (take_ofW HT_.out HW_.out (by kernel_rfl)) (fun _ _ _ h => h) (Or.inl ⟨by rfl, ?_⟩) hHeld ?_ ?_
                              rotate_left
                              · rintro w' ⟨s0, s1, s2, s3, s4, s5⟩
                                go_simp
                                with_reducible rfl
                              rotate_left
                              · simp only [Act.put, List.setIfInBounds_toArray, List.set_cons_zero, List.set_cons_succ, i64_w, i32_w]
                                rfl
                              refine pure_ (i := 14) (N := some 42) (v := ?_) (a' := ?_) #[true, true, true, true, true, true, true, true, true, true, true, true, true, true, true, false, true, true, false, false, false, false, true, false, false, false, false, false, false] rfl rfl (any_of HT_.out (by kernel_rfl)) (fun _ _ _ h => h) (Or.inl ⟨by rfl, ?_⟩) ?_ ?_
                              rotate_left
                              · intro w'
                                go_simp
                                with_reducible rfl
                              rotate_left
                              · simp only [Act.put, List.setIfInBounds_toArray, List.set_cons_zero, List.set_cons_succ, i64_w, i32_w]
                                rfl
                              refine pure_ (i := 15) (N := some 43) (v := ?_) (a' := ?_) #[true, true, true, true, true, true, true, true, true, true, true, true, true, true, true, true, true, true, false, false, false, false, true, false, false, false, false, false, false] rfl rfl (any_of HT_.out (by kernel_rfl)) (fun _ _ _ h => h) (Or.inl ⟨by rfl, ?_⟩) ?_ ?_
                              rotate_left
                              · intro w'
                                go_simp
                                with_reducible rfl
                              rotate_left
                              · simp only [Act.put, List.setIfInBounds_toArray, List.set_cons_zero, List.set_cons_succ, i64_w, i32_w]
                                rfl
                              refine take_ (i := 18) (N := some 46) (v := ?_) (a' := ?_) #[true, true, true, true, true, true, true, true, true, true, true, true, true, true, true, true, true, true, true, false, false, false, true, false, false, false, false, false, false] rfl rfl (take_ofW HT_.out HW_.out (by kernel_rfl)) (fun _ _ _ h => h) (Or.inl ⟨by rfl, ?_⟩) hHeld ?_ ?_
                              rotate_left
                              · rintro w' ⟨s0, s1, s2, s3, s4, s5⟩
                                go_simp
                                with_reducible rfl
                              rotate_left
                              · simp only [Act.put, List.setIfInBounds_toArray, List.set_cons_zero, List.set_cons_succ, i64_w, i32_w]
                                rfl
                              refine pure_ (i := 19) (N := some 47) (v := ?_) (a' := ?_) #[true, true, true, true, true, true, true, true, true, true, true, true, true, true, true, true, true, true, true, true, false, false, true, false, false, false, false, false, false] rfl rfl (any_of HT_.out (by kernel_rfl)) (fun _ _ _ h => h) (Or.inl ⟨by rfl, ?_⟩) ?_ ?_
                              rotate_left
                              · intro w'
                                go_simp
                                with_reducible rfl
                              rotate_left
                              · simp only [Act.put, List.setIfInBounds_toArray, List.set_cons_zero, List.set_cons_succ, i64_w, i32_w]
                                rfl
                              refine pure_ (i := 20) (N := some 48) (v := ?_) (a' := ?_) #[true, true, true, true, true, true, true, true, true, true, true, true, true, true, true, true, true, true, true, true, true, false, true, false, false, false, false, false, false] rfl rfl (any_of HT_.out (by kernel_rfl)) (fun _ _ _ h => h) (Or.inl ⟨by rfl, ?_⟩) ?_ ?_
                              rotate_left
                              · intro w'
                                go_simp
                                with_reducible rfl
                              rotate_left
                              · simp only [Act.put, List.setIfInBounds_toArray, List.set_cons_zero, List.set_cons_succ, i64_w, i32_w]
                                rfl
                              refine take_ (i := 21) (N := some 49) (v := ?_) (a' := ?_) #[true, true, true, true, true, true, true, true, true, true, true, true, true, true, true, true, true, true, true, true, true, true, true, false, false, false, false, false, false] rfl rfl (take_ofW HT_.out HW_.out (by kernel_rfl)) (fun _ _ _ h => h) (Or.inl ⟨by rfl, ?_⟩) hHeld ?_ ?_
                              rotate_left
                              · rintro w' ⟨s0, s1, s2, s3, s4, s5⟩
                                go_simp
                                with_reducible rfl
                              rotate_left
                              · simp only [Act.put, List.setIfInBounds_toArray, List.set_cons_zero, List.set_cons_succ, i64_w, i32_w]
                                rfl
                              refine take_ (i := 23) (N := some 51) (v := ?_) (a' := ?_) #[true, true, true, true, true, true, true, true, true, true, true, true, true, true, true, true, true, true, true, true, true, true, true, true, false, false, false, false, false] rfl rfl (take_ofW HT_.out HW_.out (by kernel_rfl)) (fun _ _ _ h => h) (Or.inl ⟨by rfl, ?_⟩) hHeld ?_ ?_
                              rotate_left
                              · rintro w' ⟨s0, s1, s2, s3, s4, s5⟩
                                go_simp
                                with_reducible rfl
                              rotate_left
                              · simp only [Act.put, List.setIfInBounds_toArray, List.set_cons_zero, List.set_cons_succ, i64_w, i32_w]
                                rfl
                              refine pure_ (i := 24) (N := some 52) (v := ?_) (a' := ?_) #[true, true, true, true, true, true, true, true, true, true, true, true, true, true, true, true, true, true, true, true, true, true, true, true, true, false, false, false, false] rfl rfl (any_of HT_.out (by kernel_rfl)) (fun _ _ _ h => h) (Or.inl ⟨by rfl, ?_⟩) ?_ ?_
                              rotate_left
                              · intro w'
                                go_simp
                                with_reducible rfl
                              rotate_left
                              · simp only [Act.put, List.setIfInBounds_toArray, List.set_cons_zero, List.set_cons_succ, i64_w, i32_w]
                                rfl
                              refine pure_ (i := 25) (N := some 53) (v := ?_) (a' := ?_) #[true, true, true, true, true, true, true, true, true, true, true, true, true, true, true, true, true, true, true, true, true, true, true, true, true, true, false, false, false] rfl rfl (any_of HT_.out (by kernel_rfl)) (fun _ _ _ h => h) (Or.inl ⟨by rfl, ?_⟩) ?_ ?_
                              rotate_left
                              · intro w'
                                go_simp
                                with_reducible rfl
                              rotate_left
                              · simp only [Act.put, List.setIfInBounds_toArray, List.set_cons_zero, List.set_cons_succ, i64_w, i32_w]
                                rfl
                              refine pure_ (i := 26) (N := some 54) (v := ?_) (a' := ?_) #[true, true, true, true, true, true, true, true, true, true, true, true, true, true, true, true, true, true, true, true, true, true, true, true, true, true, true, false, false] rfl rfl (any_of HT_.out (by kernel_rfl)) (fun _ _ _ h => h) (Or.inl ⟨by rfl, ?_⟩) ?_ ?_
                              rotate_left
                              · intro w'
                                go_simp
                                with_reducible rfl
                              rotate_left
                              · simp only [Act.put, List.setIfInBounds_toArray, List.set_cons_zero, List.set_cons_succ, i64_w, i32_w]
                                rfl
                              refine pure_ (i := 27) (N := some 55) (v := ?_) (a' := ?_) #[true, true, true, true, true, true, true, true, true, true, true, true, true, true, true, true, true, true, true, true, true, true, true, true, true, true, true, true, false] rfl rfl (any_of HT_.out (by kernel_rfl)) (fun _ _ _ h => h) (Or.inl ⟨by rfl, ?_⟩) ?_ ?_
                              rotate_left
                              · intro w'
                                go_simp
                                with_reducible rfl
                              rotate_left
                              · simp only [Act.put, List.setIfInBounds_toArray, List.set_cons_zero, List.set_cons_succ, i64_w, i32_w]
                                rfl
                              refine last_ (i := 28) (N := none) #[true, true, true, true, true, true, true, true, true, true, true, true, true, true, true, true, true, true, true, true, true, true, true, true, true, true, true, true, true] rfl rfl (one_of HT_.out (by kernel_rfl)) (by decide) (fun K hK => ?_)
                              refine skip_ (w1 := ?_) (by rfl) rfl ?_ ?_
                              rotate_left
                              · go_simp
                                rfl
                              refine hK.out _ _ ?_
                              clear hK K
                              refine done_ (done_of HT_.out (by kernel_rfl)) ?_
                              try go_wp2
                              (try simp only [← hl5_1])
                              go_roundg k1
                              case measure => have := HK1.out; omega
                              case rel => exact ⟨(y114), (wrap64 (x23_1 + 1)), (by first | rfl | (simp; done) | (simp [*]; done)), H', ⟨by have := HK1.out; omega⟩, ⟨by (try simp only [hl5_1]); (with_reducible repeat (first | apply Kd.R_alloc | apply Kd.R_drewN | apply Kd.R_drew)); exact HQ34.out⟩, ⟨by (try simp only [hl5_1]); (with_reducible repeat (first | refine blk_drewN ?_ _ | refine blk_drew ?_ | refine blk_alloc ?_ _)); refine blk_far ?_ (by have h_ := Kd.R_ne HO_5.out BK101.out (by decide); intro e_; exact h_ (by rw [e_]; rfl)) _; (with_reducible repeat (first | refine blk_drewN ?_ _ | refine blk_drew ?_ | refine blk_alloc ?_ _)); exact BK101.out⟩, ⟨by repeat (first | (with_reducible first | exact HB.out | apply below_alloc | apply pw_below_drewN | apply below_drew1 | refine below_set ?_ GB28.out | refine below_set ?_ GE101.out | refine below_set ?_ GE111.out) | exact HB.out)⟩⟩
                            · rw [if_neg c27] at H
                              (try (have c27h0 := c27b0; simp only [hl5_1] at c27h0))
                              exact absurd H (by simp)
                          · rw [if_neg c26] at H
                            exact absurd H (by simp)
                        · rw [if_neg c24] at H
                          (try (have c24h0 := c24b0; simp only [hl5_1] at c24h0))
                          exact absurd H (by simp)
                      · rw [if_neg c23] at H
                        exact absurd H (by simp)
                    · rw [if_neg c21] at H
                      (try (have c21h0 := c21b0; simp only [hl5_1] at c21h0))
                      exact absurd H (by simp)
                  · rw [if_neg c20] at H
                    exact absurd H (by simp)
                · rw [if_neg c18] at H
                  (try (have c18h0 := c18b0; simp only [hl5_1] at c18h0))
                  exact absurd H (by simp)
              · rw [if_neg c17] at H
                exact absurd H (by simp)
            · rw [if_neg c16] at H
              have c16b0 : decide (x23_1 < (l0_1.length : Int)) = false := decide_eq_false c16
              clear c16
              (try (have c16h0 := c16b0; simp only [hl5_1] at c16h0))
              obtain rfl := Option.some.inj H
              go_wp2
              go_ret
              exact ⟨_, by first | rfl | (simp [errW_none, errW_some] <;> rfl) | (simp only [← hji3]; first | rfl | (simp [errW_none, errW_some] <;> rfl)) | (simp [*, errW_none, errW_some] <;> rfl), by (with_reducible repeat (first | apply Kd.R_alloc | apply Kd.R_drewN | apply Kd.R_drew)); exact HO_5.out, by repeat (first | (with_reducible first | exact HB.out | apply below_alloc | apply pw_below_drewN | apply below_drew1 | refine below_set ?_ GE101.out) | exact HB.out)⟩
      · rw [if_neg c6] at H
        exact absurd H (by simp)
    · rw [if_neg c5] at H
      exact absurd H (by simp)
  · rw [if_neg c4] at H
    exact absurd H (by simp)

end Go.Proofs.Yteagogcpbcickaa.G
-- written by a program of this session (wip/gen/gen.py); Lean checks it
namespace Go.Proofs.Yteagogcpbcickaa.G
open Go.RowKit Go.Proofs.YteagogcpbcickaaW.PrintWords Go.Proofs.YteagogcpbcickaaW.PrintLast Go.Proofs.YteagogcpbcickaaW.PrintMore
attribute [local go_sem] max2_int min2_int max_two min_two max_three min_three max_four min_four   -- for this text's walks alone
set_option linter.unusedVariables false
set_option linter.unusedSimpArgs false

/-! ### impl_sign: function 67 -/
def impl_sign.f (a0 : Int) : Option (Int) := some ((wrap64 (48 + (Go.bits .and .i64 a0 1))) % 256)
set_option maxHeartbeats 8000000 in
set_option maxRecDepth 100000 in
theorem impl_sign.calls (a0 : Int) (r : Int) (w : World) (h : impl_sign.f a0 = some r) :
    Calls Try.prog 67 #[.int .i64 a0] w fun e w' => e = .returned (.int .u8 r) ∧ Drawn0 w w' := by
  have H : (some ((wrap64 (48 + (Go.bits .and .i64 a0 1))) % 256)) = some r := h
  clear h
  obtain rfl := Option.some.inj H
  go_enter Try.func67, Try.ntmps67
  go_wp2
  go_ret
  exact ⟨by first | rfl | (simp; done) | (simp [*]; done), by repeat (first | exact Drawn0.refl _ | apply Drawn0.step)⟩

end Go.Proofs.Yteagogcpbcickaa.G
