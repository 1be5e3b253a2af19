-- texts of this session, merged by a program of it (wip/gen/pack.py)
import Derived.Test.YtlpfmhikahlcoaaKFnExactMachineLeft10
import Derived.Test.YtlpfmhikahlcoaaKFnExactMachineLeft3
import Derived.Test.YtlpfmhikahlcoaaKFnExactMachineLeft9
import Derived.ProofKit
import Derived.WalkKit
import Derived.Deep.Slices
import Derived.OpenShut
import Derived.ChangeVars
import Derived.ChangeOld
import Derived.Below
import Derived.Test.YtlpfmhikahlcoaaKFnExactMachineLeft1
import Derived.Test.YtlpfmhikahlcoaaRows
import Derived.ShutString
/- What is left of a machine's table. Conditions: each lemma's own hypotheses. -/
set_option linter.unusedSimpArgs false
set_option linter.unusedVariables false
namespace Go.Proofs.Ytlpfmhikahlcoaa.Pure
open Go.RowKit Go.Proofs.Ytlpfmhikahlcoaa.G Go.Proofs.YtlpfmhikahlcoaaW.PrintWords Go.Proofs.YtlpfmhikahlcoaaW.PrintLast Go.Proofs.YtlpfmhikahlcoaaW.PrintMore

def seg (l : List Bool) (a c : Nat) : List Bool := (l.drop a).take c
theorem seg_len {l : List Bool} {a c : Nat} (h : a + c ≤ l.length) : (seg l a c).length = c := by unfold seg; rw [List.length_take, List.length_drop]; omega
theorem seg_half {l : List Bool} {a m : Nat} (h : a + 2 ^ (m + 1) ≤ l.length) (b : Bool) : halfL (seg l a (2 ^ (m + 1))) b = seg l (a + if b then 2 ^ m else 0) (2 ^ m) := by
  have hp : 2 ^ (m + 1) = 2 * 2 ^ m := by rw [Nat.pow_succ]; omega
  unfold halfL
  rw [seg_len h, hp, Nat.mul_div_cancel_left _ (by decide)]
  unfold seg
  cases b with
  | true =>
    simp only [if_true]
    rw [List.drop_take, List.drop_drop]
    congr 1
    omega
  | false =>
    simp only [Bool.false_eq_true, if_false, Nat.add_zero]
    rw [List.take_take, Nat.min_eq_left (by omega)]
/-- The place that bits tell, as a natural number. -/
def plN (v : List Int) : Nat := (plc v).toNat
theorem plN_bd {v : List Int} (h : v.all isBit = true) (i : Nat) (hi : i ≤ v.length) : plc (v.take i) = (plN (v.take i) : Int) ∧ plN (v.take i) < 2 ^ i := by
  have hb := plc_bd v i hi (fun j hj => by
    have := List.all_eq_true.1 h (v.getD j 0) (by rw [getD_lt v j 0 (by omega)]; exact List.getElem_mem _)
    exact this)
  have hc : ((2 ^ i : Nat) : Int) = (2 : Int) ^ i := by norm_cast
  unfold plN
  constructor
  · omega
  · omega
theorem plN_succ {v : List Int} (h : v.all isBit = true) (i : Nat) (hi : i < v.length) : plN (v.take (i + 1)) = 2 * plN (v.take i) + (if v.getD i 0 = 1 then 1 else 0) := by
  have h1 := (plN_bd h i (by omega)).1
  have hb : isBit (v.getD i 0) = true := List.all_eq_true.1 h (v.getD i 0) (by rw [getD_lt v i 0 hi]; exact List.getElem_mem _)
  unfold isBit at hb
  simp only [Bool.or_eq_true, beq_iff_eq] at hb
  unfold plN at h1 ⊢
  rw [take_succ_getD v i 0 hi, plc_snoc, h1]
  rcases hb with hb | hb
  · rw [hb, if_neg (by decide)]; omega
  · rw [hb, if_pos rfl]; omega
theorem spec_left_ev (r : List Bool) {n : Nat} {l : List Bool} (hn : n ≤ 12) (hl : l.length = 2 ^ n) (rm : Int) (v : List Int) (hv : v.length ≤ n) (hb : v.all isBit = true) (rt : Int) (o : Bool) (a b c : Int) (m : List S86) :
    Ev (fun k => spec_l09Left.f k r (n : Int) (ones l) rm v rt o a b c m) (((n - v.length : Nat) : Int), ones (seg l (plN v * 2 ^ (n - v.length)) (2 ^ (n - v.length)))) := by
  have hp := pow12 hn
  have hbd : ∀ i, i ≤ v.length → plN (v.take i) * 2 ^ (n - i) + 2 ^ (n - i) ≤ l.length := by
    intro i hi
    have h1 := (plN_bd hb i hi).2
    have h2 : 2 ^ n = 2 ^ i * 2 ^ (n - i) := by rw [← Nat.pow_add]; congr 1; omega
    rw [hl, h2, ← Nat.succ_mul]
    exact Nat.mul_le_mul_right _ h1
  have hs : ∀ i, i ≤ v.length → Ev (fun k => spec_l09Left.l0 k (i : Int) r (n : Int) (ones l) rm v rt o a b c m ((n - i : Nat) : Int) (ones (seg l (plN (v.take i) * 2 ^ (n - i)) (2 ^ (n - i))))) (((n - v.length : Nat) : Int), ones (seg l (plN v * 2 ^ (n - v.length)) (2 ^ (n - v.length)))) := by
    refine ev_loop (fun k i => spec_l09Left.l0 k (i : Int) r (n : Int) (ones l) rm v rt o a b c m ((n - i : Nat) : Int) (ones (seg l (plN (v.take i) * 2 ^ (n - i)) (2 ^ (n - i))))) v.length _ (fun i hi e => ?_) ?_
    · have hsl := seg_len (hbd i (by omega))
      have hbi : isBit (v.getD i 0) = true := List.all_eq_true.1 hb (v.getD i 0) (by rw [getD_lt v i 0 hi]; exact List.getElem_mem _)
      unfold isBit at hbi
      simp only [Bool.or_eq_true, beq_iff_eq] at hbi
      refine ev_step (f := fun k => (spec_Half.f k ((n - i : Nat) : Int) (ones (seg l (plN (v.take i) * 2 ^ (n - i)) (2 ^ (n - i)))) (v.getD i 0)).bind fun bt548 => (spec_l09Left.l0 k ((i + 1 : Nat) : Int) r (n : Int) (ones l) rm v rt o a b c m bt548.1 bt548.2.1)) (fun k => ?_) ?_
      · simp only [spec_l09Left.l0, rd_nat]
        rw [if_pos (by omega), if_pos (by omega), w64s i (by omega)]
      have hsz : (ones (seg l (plN (v.take i) * 2 ^ (n - i)) (2 ^ (n - i)))).size ≤ 1099511627776 := by
        rw [ones_size, hsl]
        have := Nat.pow_le_pow_right (n := 2) (by decide) (show n - i ≤ 12 by omega)
        omega
      refine ev_bind (ev_ge _ (spec_Half_eq ((n - i : Nat) : Int) _ (v.getD i 0) hsz)) ?_
      obtain ⟨d, hd⟩ : ∃ d, n - i = d + 1 := ⟨n - i - 1, by omega⟩
      have hd' : n - (i + 1) = d := by omega
      have hh : halfT ((n - i : Nat) : Int) (ones (seg l (plN (v.take i) * 2 ^ (n - i)) (2 ^ (n - i)))) (v.getD i 0) = ((d : Int), ones (seg l (plN (v.take (i + 1)) * 2 ^ d) (2 ^ d)), true) := by
        unfold halfT
        rw [tok_ones (by omega) hsl, flags_ones, if_pos (by
          simp only [Bool.true_and, Bool.and_eq_true, Bool.or_eq_true, beq_iff_eq, bne_iff_ne, ne_eq]
          exact ⟨by omega, hbi⟩)]
        have hbd' := hbd i (by omega)
        rw [hd] at hbd' ⊢
        rw [seg_half hbd', plN_succ hb i hi]
        rw [show ((d + 1 : Nat) : Int) - 1 = (d : Int) from by omega]
        congr 4
        rw [Nat.pow_succ]
        rcases hbi with h0 | h0
        · rw [h0]; simp; rw [Nat.mul_comm (2 ^ d) 2, ← Nat.mul_assoc, Nat.mul_comm _ 2]
        · rw [h0]; simp; rw [Nat.add_mul, Nat.one_mul, Nat.mul_comm (2 ^ d) 2, ← Nat.mul_assoc, Nat.mul_comm _ 2]
      rw [hh]
      simp only [hd'] at e
      exact e
    · refine ev_step (f := fun _ => some (((n - v.length : Nat) : Int), ones (seg l (plN v * 2 ^ (n - v.length)) (2 ^ (n - v.length))))) (fun k => ?_) (ev_some _)
      simp only [spec_l09Left.l0]
      rw [if_neg (by omega), List.take_length]
  have := hs 0 (by omega)
  refine ev_eq (fun k => ?_) this
  unfold spec_l09Left.f
  have h0 : plN (v.take 0) = 0 := rfl
  rw [h0, Nat.zero_mul, Nat.sub_zero]
  unfold seg
  rw [List.drop_zero, List.take_of_length_le (by omega)]
  rfl
theorem impl_left_ev {n : Nat} {l : List Bool} (hn : n ≤ 12) (hl : l.length = 2 ^ n) (v : List Int) (hv : v.length ≤ n) (hb : v.all isBit = true) :
    Ev (fun k => impl_leftOf.f k (n : Int) (ones l) v) (((n - v.length : Nat) : Int), ones (seg l (plN v * 2 ^ (n - v.length)) (2 ^ (n - v.length)))) := by
  have hp := pow12 hn
  obtain ⟨h1, h2⟩ := plN_bd hb v.length (Nat.le_refl _)
  rw [List.take_length] at h1 h2
  have h3 : 2 ^ n = 2 ^ v.length * 2 ^ (n - v.length) := by rw [← Nat.pow_add]; congr 1; omega
  have h4 : (plN v + 1) * 2 ^ (n - v.length) ≤ 2 ^ n := by rw [h3]; exact Nat.mul_le_mul_right _ h2
  have h5 : plN v * 2 ^ (n - v.length) ≤ (plN v + 1) * 2 ^ (n - v.length) := Nat.mul_le_mul_right _ (by omega)
  have h6 : plN v ≤ 4096 := by have := Nat.pow_le_pow_right (n := 2) (by decide) (show v.length ≤ 12 by omega); omega
  unfold impl_leftOf.f
  refine ev_bind (ev_ge v.length (placeOfBits_eq v (by omega))) ?_
  rw [if_pos hb, h1, show wrap64 ((n : Int) - (v.length : Int)) = ((n - v.length : Nat) : Int) from by rw [w64 (by omega) (by omega)]; omega, u64_of (by omega) (by omega), shl_eq _ (by omega), show (2 : Int) ^ (n - v.length) = ((2 ^ (n - v.length) : Nat) : Int) from by norm_cast]
  have e1 : wrap64 ((plN v : Int) * ((2 ^ (n - v.length) : Nat) : Int)) = ((plN v * 2 ^ (n - v.length) : Nat) : Int) := by
    rw [← Int.natCast_mul]
    generalize plN v * 2 ^ (n - v.length) = q at *
    exact w64 (by omega) (by omega)
  have e2 : wrap64 (wrap64 ((plN v : Int) + 1) * ((2 ^ (n - v.length) : Nat) : Int)) = (((plN v + 1) * 2 ^ (n - v.length) : Nat) : Int) := by
    rw [w64s _ (by omega), ← Int.natCast_mul]
    generalize (plN v + 1) * 2 ^ (n - v.length) = q at *
    exact w64 (by omega) (by omega)
  simp only [e1, e2, ones_size, hl, Int.toNat_natCast, if_pos (Int.natCast_nonneg _), if_pos (Int.ofNat_le.2 h5), if_pos (Int.ofNat_le.2 h4)]
  rw [ones_extract, show (l.take ((plN v + 1) * 2 ^ (n - v.length))).drop (plN v * 2 ^ (n - v.length)) = seg l (plN v * 2 ^ (n - v.length)) (2 ^ (n - v.length)) from by
    unfold seg
    rw [List.drop_take]
    congr 1
    rw [Nat.succ_mul]
    exact Nat.add_sub_cancel_left _ _]
  exact ev_some _
end Go.Proofs.Ytlpfmhikahlcoaa.Pure
/- The program's MachineLeft and the reference's. Conditions: lengths fit, numbers are int's. -/
set_option linter.unusedSimpArgs false
set_option linter.unusedVariables false
namespace Go.Proofs.Ytlpfmhikahlcoaa.Pure
open Go.RowKit Go.Proofs.Ytlpfmhikahlcoaa.G Go.Proofs.YtlpfmhikahlcoaaW.PrintWords Go.Proofs.YtlpfmhikahlcoaaW.PrintLast Go.Proofs.YtlpfmhikahlcoaaW.PrintMore

theorem FnExactMachineLeft_pure : ∀ (l0_0 : List Bool) (a0_1 : Int) (a0_2 : ByteArray) (a0_3 : Int) (l0_4 : List Int) (a0_5 : Int) (a0_6 : Bool) (a0_7 : Int) (a0_8 : Int) (a0_9 : Int) (l0_10 : List S130), ((l0_0.length ≤ maxLen ∧ ∀ x_ ∈ l0_0, True) ∧ ((Lit.int .i64 a0_1).wf = true ∧ a0_2.size ≤ maxLen) ∧ (Lit.int .i64 a0_3).wf = true ∧ (l0_4.length ≤ maxLen ∧ ∀ x_ ∈ l0_4, (Lit.int .i64 x_).wf = true) ∧ (Lit.int .i64 a0_5).wf = true ∧ True ∧ (Lit.int .i64 a0_7).wf = true ∧ (Lit.int .i64 a0_8).wf = true ∧ (Lit.int .i64 a0_9).wf = true ∧ (l0_10.length ≤ maxLen ∧ ∀ x_ ∈ l0_10, (x_.f0.size ≤ maxLen ∧ (Lit.int .i64 x_.f1).wf = true))) → ∃ k, laws_FnExactMachineLeft.f k l0_0 a0_1 a0_2 a0_3 l0_4 a0_5 a0_6 a0_7 a0_8 a0_9 l0_10 = some true := by
  intro r N s rm v rt o a b c m ⟨⟨hr, _⟩, ⟨_, hs⟩, hrm, ⟨hv, _⟩, hrt, _, _, _, _, ⟨hm, hmm⟩⟩
  refine ev_rounds ?_
  obtain ⟨y, hy, hyy⟩ := szMachine_ev r N s rm v rt o a b c m hr hs hv hm (fun y hy => (hmm y hy).1)
  unfold laws_FnExactMachineLeft.f
  refine ev_bind hy ?_
  by_cases h : y < 0
  · simp only [if_pos h]; exact ev_some _
  simp only [if_neg h]
  obtain ⟨hr, hs, hv, hm⟩ := hyy (by omega)
  have ht := toMachine_ev r N s rm v rt o a b c m (by omega) (by omega) (by omega)
  have hk : ∀ y ∈ cvS m, y.f0.size ≤ maxLen := by
    intro y hy
    simp only [cvS, List.mem_map] at hy
    obtain ⟨z, hz, rfl⟩ := hy
    exact (hmm z hz).1
  have hl : (cvS m).length ≤ 1099511627776 := by rw [cvS_length]; omega
  have hq := eqMachine_ev r N s rm v rt o a b c (cvS m) (by omega) (by omega) hl
  have hi := impl_MachineOk_ev r N s rm v rt o a b c (cvS m) (by omega) (by omega) hk
  have hp := spec_MachineOk_ev r N s rm v rt o a b c (cvS m) (by omega) hl (by omega)
  have h2 : ∃ x, Ev (fun k => impl_MachineLeft.f k r N s rm v rt o a b c (cvS m)) x ∧ Ev (fun k => spec_MachineLeft.f k r N s rm v rt o a b c (cvS m)) x := by
    unfold impl_MachineLeft.f spec_MachineLeft.f
    cases hB : mOkB r N s rm v rt o a b c (cvS m) with
    | false =>
      rw [hB] at hi hp
      refine ⟨(0, ⟨#[]⟩, false), ev_bind hi ?_, ev_bind hp ?_⟩
      · simp only [Bool.false_eq_true, if_false]; exact ev_some _
      · simp only [Bool.false_eq_true, if_false]; exact ev_some _
    | true =>
      rw [hB] at hi hp
      unfold mOkB at hB
      simp only [Bool.and_eq_true] at hB
      obtain ⟨⟨⟨⟨⟨⟨htok, _⟩, hfr⟩, hbits⟩, _⟩, _⟩, _⟩ := hB
      obtain ⟨n, l, rfl, hn, hl', rfl⟩ := tok_form htok
      have hvn : v.length ≤ n := by
        unfold okFront at hfr
        simp only [Bool.and_eq_true, Bool.not_eq_true', decide_eq_false_iff_not] at hfr
        have := hfr.2
        omega
      refine ⟨(((n - v.length : Nat) : Int), ones (seg l (plN v * 2 ^ (n - v.length)) (2 ^ (n - v.length))), true), ev_bind hi ?_, ev_bind hp ?_⟩
      · simp only [if_true]
        refine ev_bind (impl_left_ev hn hl' v hvn hbits) ?_
        exact ev_some _
      · simp only [if_true]
        refine ev_bind (spec_left_ev r hn hl' rm v hvn hbits rt o a b c (cvS m)) ?_
        exact ev_some _
  obtain ⟨⟨x1, x2, x3⟩, hxi, hxp⟩ := h2
  refine ev_bind ht ?_
  refine ev_bind hxp ?_
  refine ev_bind ht ?_
  refine ev_bind hxi ?_
  simp only [eqTable_same, Option.bind_some, if_true, bne_self_eq_false]
  refine ev_step (fun k => by simp only [laws_FnExactMachineLeft.j0]; rw [if_neg (by decide)]) ?_
  refine ev_bind ht ?_
  refine ev_bind hq ?_
  simp only [if_true]
  exact ev_some _
end Go.Proofs.Ytlpfmhikahlcoaa.Pure
/- What an argument of a law reads as, told by the print's kinds: a lemma for each shape of type. Conditions: none beyond the lemmas' own hypotheses. -/
namespace Go.Proofs.Ytlpfmhikahlcoaa.Open
open Go.Deep Go.ChangeShapes Go.WideShapes Go.RowKit Go.Proofs.YtlpfmhikahlcoaaW.PrintWords

/-- Whatever reads as data of type t reads by the kind d, and what is read is ok. -/
def Opens {α : Type} (P : Program) (t : TypeId) (d : Kd α) (ok : α → Prop) : Prop :=
  ∀ (H : Type) (enc : TypeId × Value → H) (w : World) (base : Nat) (spare : Nat → Bool) (held : Bool) (fuel : Nat) (cs : List Value) (x : DataW H × List MemPlace),
    DataW.trod enc P w base spare held fuel t cs = some x → ∃ a, d.K w a cs ∧ ok a

def FOpens {α : Type} (P : Program) (fs : List Field) (off : Nat) (d : Kd α) (ok : α → Prop) : Prop :=
  ∀ (H : Type) (enc : TypeId × Value → H) (w : World) (base : Nat) (spare : Nat → Bool) (held : Bool) (fuel : Nat) (cs : List Value),
    (∀ f ∈ fs, ∃ x, DataW.trod enc P w base spare held fuel f.type ((cs.drop f.offset).take (P.cellsOf f.type)) = some x) → ∃ a, d.K w a ((cs.drop off).take d.sz) ∧ ok a

theorem opens_int {P : Program} {t : TypeId} {k : IntKind} (hu : P.underlying t = some (.int k)) : Opens P t (Kd.int k) (fun a => (Lit.int k a).wf = true) := by
  intro H enc w base spare held fuel cs x h
  obtain ⟨n, rfl, _, hw⟩ := DataW.trod_int hu h
  exact ⟨n, rfl, hw⟩
theorem opens_bool {P : Program} {t : TypeId} (hu : P.underlying t = some .bool) : Opens P t Kd.bool (fun _ => True) := by
  intro H enc w base spare held fuel cs x h
  obtain ⟨n, rfl, _⟩ := DataW.trod_bool hu h
  exact ⟨n, rfl, trivial⟩
theorem opens_string {P : Program} {t : TypeId} (hu : P.underlying t = some .string) : Opens P t Kd.string (fun s => s.size ≤ maxLen) := by
  intro H enc w base spare held fuel cs x h
  obtain ⟨n, rfl, _, hw⟩ := DataW.trod_string hu h
  exact ⟨n, rfl, hw⟩
theorem list_of {α : Type} {p : Nat → α → Prop} : ∀ n, (∀ i, i < n → ∃ a, p i a) → ∃ l : List α, l.length = n ∧ ∀ i a, l[i]? = some a → p i a
  | 0, _ => ⟨[], rfl, fun i a h => by simp at h⟩
  | n + 1, h => by
    obtain ⟨l, hl, hp⟩ := list_of n (fun i hi => h i (by omega))
    obtain ⟨a, ha⟩ := h n (by omega)
    refine ⟨l ++ [a], by simp [hl], fun i b hb => ?_⟩
    rw [List.getElem?_append] at hb
    split at hb
    · exact hp i b hb
    · rename_i hi
      have e : i = n := by
        rcases Nat.lt_or_ge (i - l.length) 1 with h1 | h1
        · omega
        · rw [List.getElem?_eq_none (by simpa using h1)] at hb
          cases hb
      subst e
      rw [hl, Nat.sub_self] at hb
      cases hb
      exact ha
theorem opens_slice {α : Type} {P : Program} {t e : TypeId} {d : Kd α} {ok : α → Prop} (hu : P.underlying t = some (.slice e)) (hc : P.cellsOf e = d.sz) (h : Opens P e d ok) :
    Opens P t (Kd.slice e d) (fun l => l.length ≤ maxLen ∧ ∀ x ∈ l, ok x) := by
  intro H enc w base spare held fuel cs x hx
  rcases open_slice hu hx with ⟨rfl, rfl⟩ | ⟨a, len, cap, m, n, D, Pl, rfl, hb, hl, hm, hmm, rfl, hel⟩
  · exact ⟨[], ⟨none, 0, rfl, Nat.le_refl _, rfl, by simp, fun h => absurd h (by simp)⟩, by simp [maxLen], by simp⟩
  · have hle : len ≤ m := by rw [hmm]; split <;> omega
    have hone : ∀ i, i < len → ∃ y : α, (∃ cs', w.cells? base (a.add (i * P.cellsOf e)) (P.cellsOf e) = some cs' ∧ d.K w y cs') ∧ ok y := by
      intro i hi
      obtain ⟨cs', h1, h2⟩ := hel i (by omega)
      obtain ⟨y, hk, ho⟩ := h H enc w base spare held n cs' _ h2
      exact ⟨y, ⟨cs', h1, hk⟩, ho⟩
    obtain ⟨l, hll, hp⟩ := list_of len hone
    subst hll
    refine ⟨l, ⟨some a, cap, rfl, hl, rfl, by simp only [maxLen] at hm; omega, fun _ => ⟨a, rfl, fun j p hj => ?_⟩⟩, by omega, ?_⟩
    · obtain ⟨⟨cs', h1, hk⟩, _⟩ := hp j p hj
      refine ⟨cs', d.K_len hk, hk, fun i u hu => ?_⟩
      have hlt : i < cs'.length := by
        rcases Nat.lt_or_ge i cs'.length with h' | h'
        · exact h'
        · rw [List.getElem?_eq_none h'] at hu; cases hu
      have hlen := d.K_len hk
      obtain ⟨_, hlen2, hcell⟩ := World.cells?_some h1
      rw [hc] at hcell
      have := hcell i (by omega)
      rw [hu] at this
      rw [← Addr.add_add]
      exact this.symm ▸ rfl
    · intro x hx
      obtain ⟨i, hi, rfl⟩ := List.getElem_of_mem hx
      exact (hp i _ (List.getElem?_eq_getElem hi)).2
theorem fopens_one {α : Type} {P : Program} {f : Field} {off : Nat} {d : Kd α} {ok : α → Prop} (ho : f.offset = off) (hc : P.cellsOf f.type = d.sz) (h : Opens P f.type d ok) : FOpens P [f] off d ok := by
  intro H enc w base spare held fuel cs hx
  obtain ⟨x, hx⟩ := hx f (by simp)
  rw [ho, hc] at hx
  exact h H enc w base spare held fuel _ x hx
theorem fopens_cons {α β : Type} {P : Program} {f : Field} {fs : List Field} {off : Nat} {d : Kd α} {d' : Kd β} {ok : α → Prop} {ok' : β → Prop} (ho : f.offset = off) (hc : P.cellsOf f.type = d.sz) (h : Opens P f.type d ok)
    (hs : FOpens P fs (off + d.sz) d' ok') : FOpens P (f :: fs) off (Kd.pair d d') (fun x => ok x.1 ∧ ok' x.2) := by
  intro H enc w base spare held fuel cs hx
  obtain ⟨a, ha, hoa⟩ := fopens_one ho hc h H enc w base spare held fuel cs (fun g hg => hx g (by simp at hg; simp [hg]))
  obtain ⟨b, hb, hob⟩ := hs H enc w base spare held fuel cs (fun g hg => hx g (by simp [hg]))
  refine ⟨(a, b), ⟨_, _, ?_, ha, hb⟩, hoa, hob⟩
  show (cs.drop off).take (d.sz + d'.sz) = _
  rw [List.take_add, List.drop_drop]
theorem opens_struct {α : Type} {P : Program} {t : TypeId} {fs : Array Field} {d : Kd α} {ok : α → Prop} (hu : P.underlying t = some (.struct fs)) (hc : P.cellsOf t = d.sz) (h : FOpens P fs.toList 0 d ok) : Opens P t d ok := by
  intro H enc w base spare held fuel cs x hx
  obtain ⟨xs, n, rfl, _, hlen, hxl, hf⟩ := DataW.trod_struct hu hx
  have := h H enc w base spare held n cs (fun f hm => by
    obtain ⟨i, hi, rfl⟩ := List.getElem_of_mem hm
    have hi' : i < fs.size := by simpa using hi
    have e := hf i fs[i] (Array.getElem?_eq_getElem hi')
    rw [List.getElem?_eq_getElem (show i < xs.length by omega)] at e
    exact ⟨_, by simpa using e⟩)
  rw [List.drop_zero, List.take_of_length_le (by omega)] at this
  exact this
theorem opens_iso {α β : Type} {P : Program} {t : TypeId} {d : Kd α} {ok : α → Prop} (f : β → α) (g : α → β) (hfg : ∀ a, f (g a) = a) (h : Opens P t d ok) : Opens P t (Kd.iso d f) (fun x => ok (f x)) := by
  intro H enc w base spare held fuel cs x hx
  obtain ⟨a, ha, ho⟩ := h H enc w base spare held fuel cs x hx
  exact ⟨g a, by show d.K w (f (g a)) cs; rw [hfg]; exact ha, by show ok (f (g a)); rw [hfg]; exact ho⟩
/-- A struct's value is its cells. -/
theorem agg_of_cells {P : Program} {w : World} {r : Reach} {base : Nat} {t : TypeId} {fs : Array Field} {v : Value} {cs : List Value} (hu : P.underlying t = some (.struct fs)) (hv : Value.okWide P w r base t v) (hc : v.cells.toList = cs) : v = .agg cs.toArray := by
  obtain ⟨c, rfl, _⟩ := okWide_struct hu hv
  simp only [Value.cells] at hc
  subst hc
  simp
end Go.Proofs.Ytlpfmhikahlcoaa.Open
/- The statement FnExactMachineLeftSaid of the law FnExactMachineLeft: for every input the call returns true and its arguments read as before. Conditions: none. (Written by a program of this session: wip/gen/row.py.) -/
namespace Go.Proofs.Ytlpfmhikahlcoaa.fnExactMachineLeft
open Go.ChangeShapes Go.WideShapes Go.ChangeAt Go.RowKit Go.Proofs.Ytlpfmhikahlcoaa.Open Go.Proofs.Ytlpfmhikahlcoaa.G Go.Proofs.YtlpfmhikahlcoaaW.PrintWords
open Go.ChangeMaps (open_string shut_string)
set_option linter.unusedVariables false
theorem own : ownKnob Try.prog.godebug = none := by kernel_rfl
theorem laidOut : laidOutB Try.prog = true := by kernel_rfl
set_option maxRecDepth 100000 in
theorem lifted (os : Os) (started : os.Started) (H : Type) (enc : TypeId × Value → H) :
    ReturnsInHanded {} Try.checked os 8 .any (Rows.fnExactMachineLeftSpec.pre6 enc Try.prog Try.f8 Rows.fnExactMachineLeftRow.domain false) (Rows.fnExactMachineLeftSpec.post enc Try.prog Try.f8 false true false false) := by
  refine returnsInHanded_of_change (C := Try.checked) own started (by kernel_rfl) Try.func8
    (ChangeSpec.witness6 (enc := enc) (C := Try.checked) false ⟨#[], #[.agg #[.slice none 0 0, .int .i64 0, .string ByteArray.empty, .int .i64 0, .slice none 0 0, .int .i64 0, .bool false, .int .i64 0, .int .i64 0, .int .i64 0, .slice none 0 0]], []⟩ 8 (by kernel_rfl) (by kernel_rfl) (by kernel_rfl) (by kernel_rfl)) ?_
  intro W base args ds gs before hval0 hW hcnd _
  have hval : ∀ (j : Nat) t v, Try.f8.params[j]? = some t → args[j]? = some v → Value.okWide Try.prog W .any base t v := hval0
  have hW' := hW
  obtain ⟨p, q, hA0, hV, rfl, hfz, hnd⟩ := hW
  have hA : DataW.TrodAll enc Try.prog W 0 (fun _ => true) true Try.f8.params.toList args.toList ds p := hA0
  rw [Try.params8] at hA hval
  obtain ⟨v0, vs0, d0, ds0, p0, q0, hargs, rfl, rfl, h0, r0⟩ := trodAll_cons hA
  obtain ⟨rfl, rfl, rfl⟩ := trodAll_nil r0
  obtain rfl : args = #[v0] := by cases args; simp_all
  obtain ⟨rfl, rfl⟩ := trodVars_none hV
  have k0 := h0
  have lt0 : ∀ x ∈ p0, x.block < W.heap.size := by obtain ⟨m, hm⟩ := k0; exact DataW.trod_lt m _ _ _ hm
  obtain ⟨fu0, hf0⟩ := h0
  obtain ⟨⟨l0_0, ⟨a0_1, a0_2⟩, a0_3, l0_4, a0_5, a0_6, a0_7, a0_8, a0_9, l0_10⟩, hk0, ok0⟩ := (opens_struct Try.underlying45 (by kernel_rfl) (fopens_cons rfl (by kernel_rfl) (opens_slice (d := Kd.bool) Try.underlying22 (by kernel_rfl) (opens_bool Try.underlying4)) (fopens_cons rfl (by kernel_rfl) (opens_struct Try.underlying24 (by kernel_rfl) (fopens_cons rfl (by kernel_rfl) (opens_int Try.underlying3) (fopens_one rfl (by kernel_rfl) (opens_string Try.underlying9)))) (fopens_cons rfl (by kernel_rfl) (opens_int Try.underlying3) (fopens_cons rfl (by kernel_rfl) (opens_slice (d := (Kd.int .i64)) Try.underlying33 (by kernel_rfl) (opens_int Try.underlying3)) (fopens_cons rfl (by kernel_rfl) (opens_int Try.underlying3) (fopens_cons rfl (by kernel_rfl) (opens_bool Try.underlying4) (fopens_cons rfl (by kernel_rfl) (opens_int Try.underlying3) (fopens_cons rfl (by kernel_rfl) (opens_int Try.underlying3) (fopens_cons rfl (by kernel_rfl) (opens_int Try.underlying3) (fopens_one rfl (by kernel_rfl) (opens_slice (d := k130) Try.underlying43 (by kernel_rfl) (show Opens Try.prog 130 k130 _ from opens_iso _ (fun y => ⟨y.1, y.2⟩) (fun _ => rfl) (opens_struct Try.underlying130 (by kernel_rfl) (fopens_cons rfl (by kernel_rfl) (opens_string Try.underlying9) (fopens_one rfl (by kernel_rfl) (opens_int Try.underlying3))))))))))))))))) _ enc W 0 _ true fu0 _ _ hf0
  generalize hcs0 : v0.cells.toList = cs0 at hk0
  obtain ⟨_, _, rfl, ⟨A0_0, c0_0, rfl, hc0_0, hr0_0⟩, ⟨_, _, rfl, ⟨_, _, rfl, rfl, rfl⟩, ⟨_, _, rfl, rfl, ⟨_, _, rfl, ⟨A0_4, c0_4, rfl, hc0_4, hr0_4⟩, ⟨_, _, rfl, rfl, ⟨_, _, rfl, rfl, ⟨_, _, rfl, rfl, ⟨_, _, rfl, rfl, ⟨_, _, rfl, rfl, ⟨A0_10, c0_10, rfl, hc0_10, hr0_10⟩⟩⟩⟩⟩⟩⟩⟩⟩⟩ := hk0
  obtain rfl := agg_of_cells Try.underlying45 (hval 0 45 v0 rfl rfl) hcs0
  clear hA0 hval0
  obtain ⟨k, hk⟩ := Pure.FnExactMachineLeft_pure l0_0 a0_1 a0_2 a0_3 l0_4 a0_5 a0_6 a0_7 a0_8 a0_9 l0_10 ok0
  refine (laws_FnExactMachineLeft.calls k _ _ l0_0 a0_1 a0_2 a0_3 _ _ l0_4 a0_5 a0_6 a0_7 a0_8 a0_9 _ _ l0_10 true W hr0_0 hc0_0 hr0_4 hc0_4 hr0_10 hc0_10 rfl hk).mono fun e W' ⟨he, bel0⟩ => ?_
  have bel : Below W.heap.size W W' := bel0
  subst he
  exact ⟨_, rfl, _, _, _, [], _, [], hW', trodAll_mk1 (shut_bool Try.underlying4 _), (trodAll_cons_mk (Below.trod laidOut (by kernel_rfl) (of_decide_eq_true (by kernel_rfl)) k0 bel lt0) trodAll_mk0), rfl, bel.frame _, fun h => by cases h⟩
theorem over : Rows.fnExactMachineLeftRow.holds Try.pinned (OpenSpec.ofChange Rows.fnExactMachineLeftSpec) :=
  OpenClaim.holds_of_wide 8 Try.f8 rfl rfl rfl rfl rfl rfl rfl ⟨rfl, rfl, rfl, rfl, rfl⟩ rfl rfl rfl rfl rfl (by kernel_rfl) Try.func8 (by kernel_rfl)
    (of_decide_eq_true (by kernel_rfl)) (by unfold Func.isWrapper; first | (rw [if_pos (by decide +kernel)]; kernel_rfl) | (rw [if_neg (by decide +kernel)]; exact ⟨rfl, rfl⟩))
    (fun os started H enc _ => lifted os started H enc)
theorem proved : Rows.FnExactMachineLeftSaid := over
end Go.Proofs.Ytlpfmhikahlcoaa.fnExactMachineLeft
namespace Go.Proofs.Ytlpfmhikahlcoaa
/-- The given statement. -/
theorem fnExactMachineLeft_holds : Rows.FnExactMachineLeftSaid := fnExactMachineLeft.proved
#print axioms fnExactMachineLeft_holds
end Go.Proofs.Ytlpfmhikahlcoaa
