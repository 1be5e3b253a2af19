-- texts of this session, merged by a program of it (wip/gen/pack.py)
import Derived.Test.YtfincfnklcllnaaProg
import Derived.Below
import Derived.Deep.Draws
import Derived.Deep.AppendLies
import Derived.Maps.AppendAt
import Derived.OwnWalk
import Derived.Laws.BytesArg
import Derived.Laws.MakeOwn
import Derived.Laws.OwnMore
import Derived.Deep.OwnRows
import Derived.Tactics
import Derived.Lib.ConvBytes
import Derived.Laws.Slices
import Derived.WalkKit
import Derived.KernelRfl
import Derived.RowKit3
import Derived.Deep.LoopGhost
import Derived.Deep.QuietTactic
import Derived.BigQuiet
import Derived.WideLaws
import Derived.Deep.DeepCutAuto
import Derived.Deep.CutBlock
import Derived.Deep.RegionHeld3
import Derived.Laws.Rows
import Derived.Lib.AppendStr
import Derived.ArgAppend
import Derived.Laws.IdiomCopy
import Derived.OrdersHeld
import Derived.Laws.BitsLemmas
import Derived.RowKit
import Derived.Test.YtfincfnklcllnaaWWords
import Derived.Test.YtfincfnklcllnaaWLast
import Derived.Test.YtfincfnklcllnaaWTab
import Derived.Test.YtfincfnklcllnaaWFour
import Derived.Test.YtfincfnklcllnaaWQPut
import Derived.Test.YtfincfnklcllnaaWApart
import Derived.Test.YtfincfnklcllnaaWArr
import Derived.Test.YtfincfnklcllnaaWZeros
import Derived.Test.YtfincfnklcllnaaWFoot
import Derived.Test.YtfincfnklcllnaaWKept
import Derived.Test.YtfincfnklcllnaaWShare
import Derived.Test.YtfincfnklcllnaaWN
import Derived.Test.YtfincfnklcllnaaWFootNe
import Derived.Test.YtfincfnklcllnaaWAt
import Derived.Test.YtfincfnklcllnaaWEqStruct
import Derived.Test.YtfincfnklcllnaaWRepsOne
import Derived.Test.YtfincfnklcllnaaWInv
import Derived.Test.YtfincfnklcllnaaWInvWords
import Derived.Test.YtfincfnklcllnaaWGuard
import Derived.Test.YtfincfnklcllnaaWNEv
import Derived.Test.YtfincfnklcllnaaWMore
-- written by a program of this session (wip/gen/gen.py); Lean checks it
namespace Go.Proofs.Ytfincfnklcllnaa.G
open Go.RowKit Go.Proofs.YtfincfnklcllnaaW.PrintWords Go.Proofs.YtfincfnklcllnaaW.PrintLast Go.Proofs.YtfincfnklcllnaaW.PrintMore
attribute [local go_sem] max2_int min2_int max_two min_two max_three min_three max_four min_four   -- for this text's walks alone
set_option linter.unusedVariables false
set_option linter.unusedSimpArgs false

def errW : Option Int → Value
  | none => .nilIface
  | some c => .iface 0 (.int .i64 c)
theorem errW_none : errW none = .nilIface := rfl
theorem errW_some (c : Int) : errW (some c) = .iface 0 (.int .i64 c) := rfl

theorem info3 : (Try.prog.info? 3).map (fun i => (i.zero, i.size, i.bytes)) = some (some (.int .i64 0), 1, 8) := by kernel_rfl
theorem info4 : (Try.prog.info? 4).map (fun i => (i.zero, i.size, i.bytes)) = some (some (.bool false), 1, 1) := by kernel_rfl
theorem info5 : (Try.prog.info? 5).map (fun i => (i.zero, i.size, i.bytes)) = some (some (.int .u8 0), 1, 1) := by kernel_rfl
-- the values' own types

end Go.Proofs.Ytfincfnklcllnaa.G
/- Calls through a function value: the operation meets a contract on the function that the value holds. Conditions: each lemma's own hypotheses. -/
namespace Go.Proofs.Ytfincfnklcllnaa.Fv
open Go.RowKit Go.Proofs.YtfincfnklcllnaaW.PrintWords Go.Proofs.YtfincfnklcllnaaW.PrintLast Go.Proofs.YtfincfnklcllnaaW.PrintMore

/-- Function c has a body of its own. -/
structure Enterable (P : Program) (c : Nat) : Prop where
  out : ∃ fn, P.funcs[c]? = some fn ∧ (fn.name == "runtime.NumGoroutine") = false ∧ fn.body.isSome = true
theorem Enterable.of {P : Program} {c : Nat} {fn : Func} (hf : P.funcs[c]? = some fn) (hname : (fn.name == "runtime.NumGoroutine") = false) (hb : fn.body.isSome = true) : Enterable P c := ⟨fn, hf, hname, hb⟩
section
variable {P : Program} {ops : Array Oper} {rest : List Oper} {o : Oper} {a : Act} {w : World} {Q : Exit → Act → World → Prop}
theorem gate_calleeV {q : Operand} {ars : Array Operand} {ts : Array TypeId} (_ho : o.op = .call { callee := .value q, args := ars, argTypes := ts }) (h : wpList P ops Q (o :: rest) a w) : wpList P ops Q (o :: rest) a w := h
theorem goesV_ (N : Option Tmp) (hd : o.dst = N) (hg : o.guard = none) {f : FuncId} {q : Operand} {caps : Array Value} {ars : Array Operand} {ts : Array TypeId} (hf : Enterable P f)
    (hv : a.eval q = .func (.func f) #[] caps) (args : Array Value) (hop : o.op = .call { callee := .value q, args := ars, argTypes := ts }) (hargs : ars.map a.eval = args)
    (h : Calls P f (args ++ caps) w fun e w' => ∃ v, e = .returned v ∧ wpList P ops Q rest (a.put N v) w') : wpList P ops Q (o :: rest) a w := by
  obtain ⟨fn, hf1, hf2, hf3⟩ := hf.out
  refine wpList_plain hg fun K hK => ?_
  have he := enters_ hf1 hf2 hf3 (args ++ caps) w
  have hrun : (execOp a.eval o).run P w = .ok (.enter f (args ++ caps)) w := by
    unfold execOp
    simp [hop, resolve, hv, Deferred.ofValue, invoke, hargs, he]
  unfold Oper.wp
  rw [hrun, Oper.upon_enter]
  refine h.mono fun e w'' hh => ?_
  obtain ⟨v, rfl, hk⟩ := hh
  subst hd
  exact hK _ _ hk
end
end Go.Proofs.Ytfincfnklcllnaa.Fv
-- written by a program of this session (wip/gen/gen.py); Lean checks it
namespace Go.Proofs.Ytfincfnklcllnaa.G
open Go.RowKit Go.Proofs.YtfincfnklcllnaaW.PrintWords Go.Proofs.YtfincfnklcllnaaW.PrintLast Go.Proofs.YtfincfnklcllnaaW.PrintMore
attribute [local go_sem] max2_int min2_int max_two min_two max_three min_three max_four min_four   -- for this text's walks alone
set_option linter.unusedVariables false
set_option linter.unusedSimpArgs false

/-! ### impl_cut: function 68 -/
def impl_cut.f (a0 : Int) (a1 : Int) : Option (Int) := if 0 ≤ (IntKind.u64.wrap (a0)) then (some (Go.bits .and .i64 a1 (wrap64 ((shl .i64 1 (IntKind.u64.wrap (a0))) - 1)))) else (none)
set_option maxHeartbeats 8000000 in
set_option maxRecDepth 100000 in
theorem impl_cut.calls (a0 : Int) (a1 : Int) (r : Int) (w : World) (h : impl_cut.f a0 a1 = some r) :
    Calls Try.prog 68 #[.int .i64 a0, .int .i64 a1] w fun e w' => e = .returned (.int .i64 r) ∧ Drawn0 w w' := by
  have H : (if 0 ≤ (IntKind.u64.wrap (a0)) then (some (Go.bits .and .i64 a1 (wrap64 ((shl .i64 1 (IntKind.u64.wrap (a0))) - 1)))) else (none)) = some r := h
  clear h
  obtain ⟨ji3, hji3⟩ : ∃ j_ : Int, (IntKind.u64.wrap (a0)) = j_ := ⟨_, rfl⟩
  replace H : (if 0 ≤ (ji3) then (some (Go.bits .and .i64 a1 (wrap64 ((shl .i64 1 (ji3)) - 1)))) else (none)) = some r := by first | (rw [hji3] at H; exact H) | (simp only [hji3] at H ⊢; exact H)
  by_cases c4 : 0 ≤ (ji3)
  · rw [if_pos c4] at H
    have c4b0 := eq_true c4
    have c4b1 : decide (0 ≤ (ji3)) = true := decide_eq_true c4
    clear c4
    obtain ⟨ji5, hji5⟩ : ∃ j_ : Int, (shl .i64 1 (ji3)) = j_ := ⟨_, rfl⟩
    replace H : (some (Go.bits .and .i64 a1 (wrap64 ((ji5) - 1)))) = some r := by first | (rw [hji5] at H; exact H) | (simp only [hji5] at H ⊢; exact H)
    have hji5_ : (IntKind.i64.wrap (1 * 2 ^ min (ji3).toNat 64)) = ji5 := hji5
    have hji5z : (ji3) ≤ 64 → (IntKind.i64.wrap (1 * 2 ^ (ji3).toNat)) = ji5 := shl_small hji5
    have hji5u : (IntKind.i64.wrap (2 ^ min (ji3).toNat 64)) = ji5 := by have h_ := hji5_; rw [Int.one_mul] at h_; exact h_
    have hji5v : (ji3) ≤ 64 → (IntKind.i64.wrap (2 ^ (ji3).toNat)) = ji5 := fun hle_ => by have h_ := hji5z hle_; rw [Int.one_mul] at h_; exact h_
    have hji5y : (wrap64 (1 * 2 ^ min (ji3).toNat 64)) = ji5 := (i64_w _).symm.trans hji5_
    have hji5x : (ji3) ≤ 64 → (wrap64 (1 * 2 ^ (ji3).toNat)) = ji5 := fun h_ => (i64_w _).symm.trans (hji5z h_)
    obtain rfl := Option.some.inj H
    go_enter Try.func68, Try.ntmps68
    go_wp2
    go_ret
    exact ⟨by first | rfl | (simp; done) | (simp only [← hji3, ← hji5] <;> (first | rfl | simp)) | (simp [*]; done), by repeat (first | exact Drawn0.refl _ | apply Drawn0.step)⟩
  · rw [if_neg c4] at H
    exact absurd H (by simp)

end Go.Proofs.Ytfincfnklcllnaa.G
-- written by a program of this session (wip/gen/gen.py); Lean checks it
namespace Go.Proofs.Ytfincfnklcllnaa.G
open Go.RowKit Go.Proofs.YtfincfnklcllnaaW.PrintWords Go.Proofs.YtfincfnklcllnaaW.PrintLast Go.Proofs.YtfincfnklcllnaaW.PrintMore
attribute [local go_sem] max2_int min2_int max_two min_two max_three min_three max_four min_four   -- for this text's walks alone
set_option linter.unusedVariables false
set_option linter.unusedSimpArgs false

/-! ### impl_Merge_1: function 67 -/
def impl_Merge_1.f (a0 : Int) (a90_0 : Int) (a91_0 : Int) (a91_1 : ByteArray) (l92_0 : List Bool) (a93_0 : Int) : Option (Bool) := if 0 ≤ a90_0 then (if 0 ≤ (IntKind.u64.wrap (a90_0 + 1)) then ((impl_cut.f (wrap64 (a90_0)) a0).bind fun t523 => (if 0 ≤ (Go.bits .or .i64 (shl .i64 (shr .i64 a0 a90_0) (IntKind.u64.wrap (a90_0 + 1))) t523) then (if (Go.bits .or .i64 (shl .i64 (shr .i64 a0 a90_0) (IntKind.u64.wrap (a90_0 + 1))) t523) < (a91_1.size : Int) then (if 0 ≤ (Go.bits .or .i64 (Go.bits .or .i64 (shl .i64 (shr .i64 a0 a90_0) (IntKind.u64.wrap (a90_0 + 1))) t523) (shl .i64 1 a90_0)) then (if (Go.bits .or .i64 (Go.bits .or .i64 (shl .i64 (shr .i64 a0 a90_0) (IntKind.u64.wrap (a90_0 + 1))) t523) (shl .i64 1 a90_0)) < (a91_1.size : Int) then (if 0 ≤ a93_0 then (if a93_0 < (l92_0.length : Int) then (if rdOf false l92_0 a93_0 = true then (if (bt a91_1 (Go.bits .or .i64 (shl .i64 (shr .i64 a0 a90_0) (IntKind.u64.wrap (a90_0 + 1))) t523)) = 49 then (some ((bt a91_1 (Go.bits .or .i64 (Go.bits .or .i64 (shl .i64 (shr .i64 a0 a90_0) (IntKind.u64.wrap (a90_0 + 1))) t523) (shl .i64 1 a90_0))) == 49)) else (some false)) else (if (bt a91_1 (Go.bits .or .i64 (shl .i64 (shr .i64 a0 a90_0) (IntKind.u64.wrap (a90_0 + 1))) t523)) = 49 then (some true) else (some ((bt a91_1 (Go.bits .or .i64 (Go.bits .or .i64 (shl .i64 (shr .i64 a0 a90_0) (IntKind.u64.wrap (a90_0 + 1))) t523) (shl .i64 1 a90_0))) == 49)))) else (none)) else (none)) else (none)) else (none)) else (none)) else (none))) else (none)) else (none)
set_option maxHeartbeats 8000000 in
set_option maxRecDepth 100000 in
theorem impl_Merge_1.calls (a0 : Int) (g0_ : Nat) (a90_0 : Int) (g1_ : Nat) (a91_0 : Int) (a91_1 : ByteArray) (g2_ : Nat) (A92_0 : Option Addr) (c92_0 : Nat) (l92_0 : List Bool) (g3_ : Nat) (a93_0 : Int) (r : Bool) (w : World) (hbg0_ : w.heap[g0_]? = some (.cells #[.int .u64 a90_0] 65 (0, 0))) (hbg1_ : w.heap[g1_]? = some (.cells #[.int .i64 a91_0, .string a91_1] 32 (0, 0))) (hbg2_ : w.heap[g2_]? = some (.cells #[.slice A92_0 l92_0.length c92_0] 22 (0, 0))) (hr92_0 : Kd.C Kd.bool w A92_0 l92_0.length l92_0) (hc92_0 : l92_0.length ≤ c92_0) (hbg3_ : w.heap[g3_]? = some (.cells #[.int .i64 a93_0] 3 (0, 0))) (hng0_g1_ : g0_ ≠ g1_) (hng0_g2_ : g0_ ≠ g2_) (hng0_g3_ : g0_ ≠ g3_) (hng1_g2_ : g1_ ≠ g2_) (hng1_g3_ : g1_ ≠ g3_) (hng2_g3_ : g2_ ≠ g3_) (h : impl_Merge_1.f a0 a90_0 a91_0 a91_1 l92_0 a93_0 = some r) :
    Calls Try.prog 67 #[.int .i64 a0, .pointer (some ⟨g0_, 0, none⟩), .pointer (some ⟨g1_, 0, none⟩), .pointer (some ⟨g2_, 0, none⟩), .pointer (some ⟨g3_, 0, none⟩)] w fun e w' => e = .returned (.bool r) ∧ Drawn0 w w' := by
  have NB519_520 := Aside0.mk hng0_g1_
  have NB520_519 := Aside0.mk hng0_g1_.symm
  clear hng0_g1_
  have NB519_521 := Aside0.mk hng0_g2_
  have NB521_519 := Aside0.mk hng0_g2_.symm
  clear hng0_g2_
  have NB519_522 := Aside0.mk hng0_g3_
  have NB522_519 := Aside0.mk hng0_g3_.symm
  clear hng0_g3_
  have NB520_521 := Aside0.mk hng1_g2_
  have NB521_520 := Aside0.mk hng1_g2_.symm
  clear hng1_g2_
  have NB520_522 := Aside0.mk hng1_g3_
  have NB522_520 := Aside0.mk hng1_g3_.symm
  clear hng1_g3_
  have NB521_522 := Aside0.mk hng2_g3_
  have NB522_521 := Aside0.mk hng2_g3_.symm
  clear hng2_g3_
  have BK519 := Aside0.mk hbg0_
  clear hbg0_
  have BK520 := Aside0.mk hbg1_
  clear hbg1_
  have BK521 := Aside0.mk hbg2_
  clear hbg2_
  have HR92_0 := Aside0.mk hr92_0
  have HC92_0 := Aside0.mk hc92_0
  clear hr92_0 hc92_0
  have BK522 := Aside0.mk hbg3_
  clear hbg3_
  have H : (if 0 ≤ a90_0 then (if 0 ≤ (IntKind.u64.wrap (a90_0 + 1)) then ((impl_cut.f (wrap64 (a90_0)) a0).bind fun t523 => (if 0 ≤ (Go.bits .or .i64 (shl .i64 (shr .i64 a0 a90_0) (IntKind.u64.wrap (a90_0 + 1))) t523) then (if (Go.bits .or .i64 (shl .i64 (shr .i64 a0 a90_0) (IntKind.u64.wrap (a90_0 + 1))) t523) < (a91_1.size : Int) then (if 0 ≤ (Go.bits .or .i64 (Go.bits .or .i64 (shl .i64 (shr .i64 a0 a90_0) (IntKind.u64.wrap (a90_0 + 1))) t523) (shl .i64 1 a90_0)) then (if (Go.bits .or .i64 (Go.bits .or .i64 (shl .i64 (shr .i64 a0 a90_0) (IntKind.u64.wrap (a90_0 + 1))) t523) (shl .i64 1 a90_0)) < (a91_1.size : Int) then (if 0 ≤ a93_0 then (if a93_0 < (l92_0.length : Int) then (if rdOf false l92_0 a93_0 = true then (if (bt a91_1 (Go.bits .or .i64 (shl .i64 (shr .i64 a0 a90_0) (IntKind.u64.wrap (a90_0 + 1))) t523)) = 49 then (some ((bt a91_1 (Go.bits .or .i64 (Go.bits .or .i64 (shl .i64 (shr .i64 a0 a90_0) (IntKind.u64.wrap (a90_0 + 1))) t523) (shl .i64 1 a90_0))) == 49)) else (some false)) else (if (bt a91_1 (Go.bits .or .i64 (shl .i64 (shr .i64 a0 a90_0) (IntKind.u64.wrap (a90_0 + 1))) t523)) = 49 then (some true) else (some ((bt a91_1 (Go.bits .or .i64 (Go.bits .or .i64 (shl .i64 (shr .i64 a0 a90_0) (IntKind.u64.wrap (a90_0 + 1))) t523) (shl .i64 1 a90_0))) == 49)))) else (none)) else (none)) else (none)) else (none)) else (none)) else (none))) else (none)) else (none)) = some r := h
  clear h
  by_cases c2 : 0 ≤ a90_0
  · rw [if_pos c2] at H
    have c2b0 := eq_true c2
    have c2b1 : decide (0 ≤ a90_0) = true := decide_eq_true c2
    clear c2
    obtain ⟨ji3, hji3⟩ : ∃ j_ : Int, (shr .i64 a0 a90_0) = j_ := ⟨_, rfl⟩
    replace H : (if 0 ≤ (IntKind.u64.wrap (a90_0 + 1)) then ((impl_cut.f (wrap64 (a90_0)) a0).bind fun t523 => (if 0 ≤ (Go.bits .or .i64 (shl .i64 (ji3) (IntKind.u64.wrap (a90_0 + 1))) t523) then (if (Go.bits .or .i64 (shl .i64 (ji3) (IntKind.u64.wrap (a90_0 + 1))) t523) < (a91_1.size : Int) then (if 0 ≤ (Go.bits .or .i64 (Go.bits .or .i64 (shl .i64 (ji3) (IntKind.u64.wrap (a90_0 + 1))) t523) (shl .i64 1 a90_0)) then (if (Go.bits .or .i64 (Go.bits .or .i64 (shl .i64 (ji3) (IntKind.u64.wrap (a90_0 + 1))) t523) (shl .i64 1 a90_0)) < (a91_1.size : Int) then (if 0 ≤ a93_0 then (if a93_0 < (l92_0.length : Int) then (if rdOf false l92_0 a93_0 = true then (if (bt a91_1 (Go.bits .or .i64 (shl .i64 (ji3) (IntKind.u64.wrap (a90_0 + 1))) t523)) = 49 then (some ((bt a91_1 (Go.bits .or .i64 (Go.bits .or .i64 (shl .i64 (ji3) (IntKind.u64.wrap (a90_0 + 1))) t523) (shl .i64 1 a90_0))) == 49)) else (some false)) else (if (bt a91_1 (Go.bits .or .i64 (shl .i64 (ji3) (IntKind.u64.wrap (a90_0 + 1))) t523)) = 49 then (some true) else (some ((bt a91_1 (Go.bits .or .i64 (Go.bits .or .i64 (shl .i64 (ji3) (IntKind.u64.wrap (a90_0 + 1))) t523) (shl .i64 1 a90_0))) == 49)))) else (none)) else (none)) else (none)) else (none)) else (none)) else (none))) else (none)) = some r := by first | (rw [hji3] at H; exact H) | (simp only [hji3] at H ⊢; exact H)
    have hji3_ : (a0 / 2 ^ min a90_0.toNat 64) = ji3 := hji3
    have hji3z : a90_0 ≤ 64 → (a0 / 2 ^ a90_0.toNat) = ji3 := shr_small hji3
    obtain ⟨ji4, hji4⟩ : ∃ j_ : Int, (IntKind.u64.wrap (a90_0 + 1)) = j_ := ⟨_, rfl⟩
    replace H : (if 0 ≤ (ji4) then ((impl_cut.f (wrap64 (a90_0)) a0).bind fun t523 => (if 0 ≤ (Go.bits .or .i64 (shl .i64 (ji3) (ji4)) t523) then (if (Go.bits .or .i64 (shl .i64 (ji3) (ji4)) t523) < (a91_1.size : Int) then (if 0 ≤ (Go.bits .or .i64 (Go.bits .or .i64 (shl .i64 (ji3) (ji4)) t523) (shl .i64 1 a90_0)) then (if (Go.bits .or .i64 (Go.bits .or .i64 (shl .i64 (ji3) (ji4)) t523) (shl .i64 1 a90_0)) < (a91_1.size : Int) then (if 0 ≤ a93_0 then (if a93_0 < (l92_0.length : Int) then (if rdOf false l92_0 a93_0 = true then (if (bt a91_1 (Go.bits .or .i64 (shl .i64 (ji3) (ji4)) t523)) = 49 then (some ((bt a91_1 (Go.bits .or .i64 (Go.bits .or .i64 (shl .i64 (ji3) (ji4)) t523) (shl .i64 1 a90_0))) == 49)) else (some false)) else (if (bt a91_1 (Go.bits .or .i64 (shl .i64 (ji3) (ji4)) t523)) = 49 then (some true) else (some ((bt a91_1 (Go.bits .or .i64 (Go.bits .or .i64 (shl .i64 (ji3) (ji4)) t523) (shl .i64 1 a90_0))) == 49)))) else (none)) else (none)) else (none)) else (none)) else (none)) else (none))) else (none)) = some r := by first | (rw [hji4] at H; exact H) | (simp only [hji4] at H ⊢; exact H)
    by_cases c5 : 0 ≤ (ji4)
    · rw [if_pos c5] at H
      have c5b0 := eq_true c5
      have c5b1 : decide (0 ≤ (ji4)) = true := decide_eq_true c5
      clear c5
      obtain ⟨ji6, hji6⟩ : ∃ j_ : Int, (shl .i64 (ji3) (ji4)) = j_ := ⟨_, rfl⟩
      replace H : ((impl_cut.f (wrap64 (a90_0)) a0).bind fun t523 => (if 0 ≤ (Go.bits .or .i64 (ji6) t523) then (if (Go.bits .or .i64 (ji6) t523) < (a91_1.size : Int) then (if 0 ≤ (Go.bits .or .i64 (Go.bits .or .i64 (ji6) t523) (shl .i64 1 a90_0)) then (if (Go.bits .or .i64 (Go.bits .or .i64 (ji6) t523) (shl .i64 1 a90_0)) < (a91_1.size : Int) then (if 0 ≤ a93_0 then (if a93_0 < (l92_0.length : Int) then (if rdOf false l92_0 a93_0 = true then (if (bt a91_1 (Go.bits .or .i64 (ji6) t523)) = 49 then (some ((bt a91_1 (Go.bits .or .i64 (Go.bits .or .i64 (ji6) t523) (shl .i64 1 a90_0))) == 49)) else (some false)) else (if (bt a91_1 (Go.bits .or .i64 (ji6) t523)) = 49 then (some true) else (some ((bt a91_1 (Go.bits .or .i64 (Go.bits .or .i64 (ji6) t523) (shl .i64 1 a90_0))) == 49)))) else (none)) else (none)) else (none)) else (none)) else (none)) else (none))) = some r := by first | (rw [hji6] at H; exact H) | (simp only [hji6] at H ⊢; exact H)
      have hji6_ : (IntKind.i64.wrap ((ji3) * 2 ^ min (ji4).toNat 64)) = ji6 := hji6
      have hji6z : (ji4) ≤ 64 → (IntKind.i64.wrap ((ji3) * 2 ^ (ji4).toNat)) = ji6 := shl_small hji6
      have hji6y : (wrap64 ((ji3) * 2 ^ min (ji4).toNat 64)) = ji6 := (i64_w _).symm.trans hji6_
      have hji6x : (ji4) ≤ 64 → (wrap64 ((ji3) * 2 ^ (ji4).toNat)) = ji6 := fun h_ => (i64_w _).symm.trans (hji6z h_)
      replace H := Option.bind_eq_some_iff.mp H
      obtain ⟨t523, A70, H⟩ := H
      replace H : (if 0 ≤ (Go.bits .or .i64 (ji6) t523) then (if (Go.bits .or .i64 (ji6) t523) < (a91_1.size : Int) then (if 0 ≤ (Go.bits .or .i64 (Go.bits .or .i64 (ji6) t523) (shl .i64 1 a90_0)) then (if (Go.bits .or .i64 (Go.bits .or .i64 (ji6) t523) (shl .i64 1 a90_0)) < (a91_1.size : Int) then (if 0 ≤ a93_0 then (if a93_0 < (l92_0.length : Int) then (if rdOf false l92_0 a93_0 = true then (if (bt a91_1 (Go.bits .or .i64 (ji6) t523)) = 49 then (some ((bt a91_1 (Go.bits .or .i64 (Go.bits .or .i64 (ji6) t523) (shl .i64 1 a90_0))) == 49)) else (some false)) else (if (bt a91_1 (Go.bits .or .i64 (ji6) t523)) = 49 then (some true) else (some ((bt a91_1 (Go.bits .or .i64 (Go.bits .or .i64 (ji6) t523) (shl .i64 1 a90_0))) == 49)))) else (none)) else (none)) else (none)) else (none)) else (none)) else (none)) = some r := H
      have A7 := Aside0.mk A70
      clear A70
      by_cases c8 : 0 ≤ (Go.bits .or .i64 (ji6) t523)
      · rw [if_pos c8] at H
        have c8b0 : decide (0 ≤ (Go.bits .or .i64 (ji6) t523)) = true := decide_eq_true c8
        clear c8
        by_cases c9 : (Go.bits .or .i64 (ji6) t523) < (a91_1.size : Int)
        · rw [if_pos c9] at H
          have c9b0 : decide ((Go.bits .or .i64 (ji6) t523) < (a91_1.size : Int)) = true := decide_eq_true c9
          clear c9
          have c11b0 := eq_true (of_decide_eq_true (by first | (with_reducible assumption) | assumption) : 0 ≤ a90_0)
          obtain ⟨ji12, hji12⟩ : ∃ j_ : Int, (shl .i64 1 a90_0) = j_ := ⟨_, rfl⟩
          replace H : (if 0 ≤ (Go.bits .or .i64 (Go.bits .or .i64 (ji6) t523) (ji12)) then (if (Go.bits .or .i64 (Go.bits .or .i64 (ji6) t523) (ji12)) < (a91_1.size : Int) then (if 0 ≤ a93_0 then (if a93_0 < (l92_0.length : Int) then (if rdOf false l92_0 a93_0 = true then (if (bt a91_1 (Go.bits .or .i64 (ji6) t523)) = 49 then (some ((bt a91_1 (Go.bits .or .i64 (Go.bits .or .i64 (ji6) t523) (ji12))) == 49)) else (some false)) else (if (bt a91_1 (Go.bits .or .i64 (ji6) t523)) = 49 then (some true) else (some ((bt a91_1 (Go.bits .or .i64 (Go.bits .or .i64 (ji6) t523) (ji12))) == 49)))) else (none)) else (none)) else (none)) else (none)) = some r := by first | (rw [hji12] at H; exact H) | (simp only [hji12] at H ⊢; exact H)
          (try rw [hji12] at A7)
          have hji12_ : (IntKind.i64.wrap (1 * 2 ^ min a90_0.toNat 64)) = ji12 := hji12
          have hji12z : a90_0 ≤ 64 → (IntKind.i64.wrap (1 * 2 ^ a90_0.toNat)) = ji12 := shl_small hji12
          have hji12u : (IntKind.i64.wrap (2 ^ min a90_0.toNat 64)) = ji12 := by have h_ := hji12_; rw [Int.one_mul] at h_; exact h_
          have hji12v : a90_0 ≤ 64 → (IntKind.i64.wrap (2 ^ a90_0.toNat)) = ji12 := fun hle_ => by have h_ := hji12z hle_; rw [Int.one_mul] at h_; exact h_
          have hji12y : (wrap64 (1 * 2 ^ min a90_0.toNat 64)) = ji12 := (i64_w _).symm.trans hji12_
          have hji12x : a90_0 ≤ 64 → (wrap64 (1 * 2 ^ a90_0.toNat)) = ji12 := fun h_ => (i64_w _).symm.trans (hji12z h_)
          by_cases c13 : 0 ≤ (Go.bits .or .i64 (Go.bits .or .i64 (ji6) t523) (ji12))
          · rw [if_pos c13] at H
            have c13b0 : decide (0 ≤ (Go.bits .or .i64 (Go.bits .or .i64 (ji6) t523) (ji12))) = true := decide_eq_true c13
            clear c13
            by_cases c14 : (Go.bits .or .i64 (Go.bits .or .i64 (ji6) t523) (ji12)) < (a91_1.size : Int)
            · rw [if_pos c14] at H
              have c14b0 : decide ((Go.bits .or .i64 (Go.bits .or .i64 (ji6) t523) (ji12)) < (a91_1.size : Int)) = true := decide_eq_true c14
              clear c14
              by_cases c16 : 0 ≤ a93_0
              · rw [if_pos c16] at H
                have c16b0 : decide (0 ≤ a93_0) = true := decide_eq_true c16
                clear c16
                by_cases c17 : a93_0 < (l92_0.length : Int)
                · rw [if_pos c17] at H
                  have c17b0 : decide (a93_0 < (l92_0.length : Int)) = true := decide_eq_true c17
                  clear c17
                  obtain ⟨bq18, hbq18⟩ : ∃ b_ : Bool, b_ = (rdOf false l92_0 a93_0) := ⟨_, rfl⟩
                  replace H : (if bq18 = true then (if (bt a91_1 (Go.bits .or .i64 (ji6) t523)) = 49 then (some ((bt a91_1 (Go.bits .or .i64 (Go.bits .or .i64 (ji6) t523) (ji12))) == 49)) else (some false)) else (if (bt a91_1 (Go.bits .or .i64 (ji6) t523)) = 49 then (some true) else (some ((bt a91_1 (Go.bits .or .i64 (Go.bits .or .i64 (ji6) t523) (ji12))) == 49)))) = some r := by rw [← hbq18] at H; exact H
                  have Nbq18 := Aside0.mk hbq18
                  clear hbq18
                  by_cases c19 : bq18 = true
                  · subst c19
                    have H1 : (if (bt a91_1 (Go.bits .or .i64 (ji6) t523)) = 49 then (some ((bt a91_1 (Go.bits .or .i64 (Go.bits .or .i64 (ji6) t523) (ji12))) == 49)) else (some false)) = some r := by rw [if_pos rfl] at H; exact H
                    clear H
                    have H := H1
                    clear H1
                    by_cases c20 : (bt a91_1 (Go.bits .or .i64 (ji6) t523)) = 49
                    · rw [if_pos c20] at H
                      have c20b0 : ((bt a91_1 (Go.bits .or .i64 (ji6) t523)) == 49) = true := beq_iff_eq.mpr c20
                      have c20b1 : ((bt a91_1 (Go.bits .or .i64 (ji6) t523)) != 49) = false := bne_eq_false_iff_eq.mpr c20
                      clear c20
                      obtain rfl := Option.some.inj H
                      have hnb21 := NB519_520.out
                      have hnc21 := NB520_519.out
                      have hnb22 := NB519_521.out
                      have hnc22 := NB521_519.out
                      have hnb23 := NB519_522.out
                      have hnc23 := NB522_519.out
                      have hcz24_0 : w.cell? ⟨g0_, 0, none⟩ = some (.int .u64 a90_0) := (blk_cell BK519.out 0).trans rfl
                      have hfz24_0 := blk_frozen BK519.out 0
                      go_enter Try.func67, Try.ntmps67
                      go_wp2_with (first | (go_at_call 68; (try simp only [i64_w, i32_w]); (with_reducible refine (impl_cut.calls (wrap64 (a90_0)) a0 t523 _ A7.out).mono ?_); rintro e w' ⟨rfl, ⟨nd, rfl⟩⟩; (try first | exact ⟨rfl, _, World.drewN_drewN _ _ _⟩ | exact ⟨rfl, _, Eq.trans (World.drewN_drewN _ _ _) (congrArg (World.drewN _) (Nat.add_assoc _ _ _))⟩); have hnb25 := NB520_521.out; have hnc25 := NB521_520.out; have hnb26 := NB520_522.out; have hnc26 := NB522_520.out; have hcz27_0 : w.cell? ⟨g1_, 0, none⟩ = some (.int .i64 a91_0) := (blk_cell BK520.out 0).trans rfl; have hcz27_1 : w.cell? ⟨g1_, 1, none⟩ = some (.string a91_1) := (blk_cell BK520.out 1).trans rfl; have hfz27_0 := blk_frozen BK520.out 0; have hfz27_1 := blk_frozen BK520.out 1; have p10 : 0 ≤ ((Go.bits .or .i64 (ji6) t523) : Int) := of_decide_eq_true (by first | (with_reducible assumption) | assumption); have q10 : (Go.bits .or .i64 (ji6) t523) < (a91_1.size : Int) := of_decide_eq_true (by first | (with_reducible assumption) | assumption); have hx10 := bt_at a91_1 (Go.bits .or .i64 (ji6) t523); replace p10 := eq_true p10; replace q10 := eq_true q10; have p15 : 0 ≤ ((Go.bits .or .i64 (Go.bits .or .i64 (ji6) t523) (ji12)) : Int) := of_decide_eq_true (by first | (with_reducible assumption) | assumption); have q15 : (Go.bits .or .i64 (Go.bits .or .i64 (ji6) t523) (ji12)) < (a91_1.size : Int) := of_decide_eq_true (by first | (with_reducible assumption) | assumption); have hx15 := bt_at a91_1 (Go.bits .or .i64 (Go.bits .or .i64 (ji6) t523) (ji12)); replace p15 := eq_true p15; replace q15 := eq_true q15; have hnb28 := NB521_522.out; have hnc28 := NB522_521.out; have hcz29_0 : w.cell? ⟨g2_, 0, none⟩ = some (.slice A92_0 l92_0.length c92_0) := (blk_cell BK521.out 0).trans rfl; have hfz29_0 := blk_frozen BK521.out 0; have hcz30_0 : w.cell? ⟨g3_, 0, none⟩ = some (.int .i64 a93_0) := (blk_cell BK522.out 0).trans rfl; have hfz30_0 := blk_frozen BK522.out 0; have p524 : 0 ≤ (a93_0 : Int) := of_decide_eq_true (by first | (with_reducible assumption) | assumption); have q524 : a93_0 < (l92_0.length : Int) := of_decide_eq_true (by first | (with_reducible assumption) | assumption); obtain ⟨ad524, e524, hx524_0⟩ := Kd.at_bool HR92_0.out a93_0 p524 q524; (try rw [← Nbq18.out] at hx524_0); cases e524; replace p524 := eq_true p524; replace q524 := eq_true q524))
                      repeat (go_quiet (first | (go_at_call 68; (try simp only [i64_w, i32_w]); (with_reducible refine (impl_cut.calls (wrap64 (a90_0)) a0 t523 _ A7.out).mono ?_); rintro e w' ⟨rfl, ⟨nd, rfl⟩⟩; (try first | exact ⟨rfl, _, World.drewN_drewN _ _ _⟩ | exact ⟨rfl, _, Eq.trans (World.drewN_drewN _ _ _) (congrArg (World.drewN _) (Nat.add_assoc _ _ _))⟩); have hnb25 := NB520_521.out; have hnc25 := NB521_520.out; have hnb26 := NB520_522.out; have hnc26 := NB522_520.out; have hcz27_0 : w.cell? ⟨g1_, 0, none⟩ = some (.int .i64 a91_0) := (blk_cell BK520.out 0).trans rfl; have hcz27_1 : w.cell? ⟨g1_, 1, none⟩ = some (.string a91_1) := (blk_cell BK520.out 1).trans rfl; have hfz27_0 := blk_frozen BK520.out 0; have hfz27_1 := blk_frozen BK520.out 1; have p10 : 0 ≤ ((Go.bits .or .i64 (ji6) t523) : Int) := of_decide_eq_true (by first | (with_reducible assumption) | assumption); have q10 : (Go.bits .or .i64 (ji6) t523) < (a91_1.size : Int) := of_decide_eq_true (by first | (with_reducible assumption) | assumption); have hx10 := bt_at a91_1 (Go.bits .or .i64 (ji6) t523); replace p10 := eq_true p10; replace q10 := eq_true q10; have p15 : 0 ≤ ((Go.bits .or .i64 (Go.bits .or .i64 (ji6) t523) (ji12)) : Int) := of_decide_eq_true (by first | (with_reducible assumption) | assumption); have q15 : (Go.bits .or .i64 (Go.bits .or .i64 (ji6) t523) (ji12)) < (a91_1.size : Int) := of_decide_eq_true (by first | (with_reducible assumption) | assumption); have hx15 := bt_at a91_1 (Go.bits .or .i64 (Go.bits .or .i64 (ji6) t523) (ji12)); replace p15 := eq_true p15; replace q15 := eq_true q15; have hnb28 := NB521_522.out; have hnc28 := NB522_521.out; have hcz29_0 : w.cell? ⟨g2_, 0, none⟩ = some (.slice A92_0 l92_0.length c92_0) := (blk_cell BK521.out 0).trans rfl; have hfz29_0 := blk_frozen BK521.out 0; have hcz30_0 : w.cell? ⟨g3_, 0, none⟩ = some (.int .i64 a93_0) := (blk_cell BK522.out 0).trans rfl; have hfz30_0 := blk_frozen BK522.out 0; have p524 : 0 ≤ (a93_0 : Int) := of_decide_eq_true (by first | (with_reducible assumption) | assumption); have q524 : a93_0 < (l92_0.length : Int) := of_decide_eq_true (by first | (with_reducible assumption) | assumption); obtain ⟨ad524, e524, hx524_0⟩ := Kd.at_bool HR92_0.out a93_0 p524 q524; (try rw [← Nbq18.out] at hx524_0); cases e524; replace p524 := eq_true p524; replace q524 := eq_true q524)); try go_wp2_with (first | (go_at_call 68; (try simp only [i64_w, i32_w]); (with_reducible refine (impl_cut.calls (wrap64 (a90_0)) a0 t523 _ A7.out).mono ?_); rintro e w' ⟨rfl, ⟨nd, rfl⟩⟩; (try first | exact ⟨rfl, _, World.drewN_drewN _ _ _⟩ | exact ⟨rfl, _, Eq.trans (World.drewN_drewN _ _ _) (congrArg (World.drewN _) (Nat.add_assoc _ _ _))⟩); have hnb25 := NB520_521.out; have hnc25 := NB521_520.out; have hnb26 := NB520_522.out; have hnc26 := NB522_520.out; have hcz27_0 : w.cell? ⟨g1_, 0, none⟩ = some (.int .i64 a91_0) := (blk_cell BK520.out 0).trans rfl; have hcz27_1 : w.cell? ⟨g1_, 1, none⟩ = some (.string a91_1) := (blk_cell BK520.out 1).trans rfl; have hfz27_0 := blk_frozen BK520.out 0; have hfz27_1 := blk_frozen BK520.out 1; have p10 : 0 ≤ ((Go.bits .or .i64 (ji6) t523) : Int) := of_decide_eq_true (by first | (with_reducible assumption) | assumption); have q10 : (Go.bits .or .i64 (ji6) t523) < (a91_1.size : Int) := of_decide_eq_true (by first | (with_reducible assumption) | assumption); have hx10 := bt_at a91_1 (Go.bits .or .i64 (ji6) t523); replace p10 := eq_true p10; replace q10 := eq_true q10; have p15 : 0 ≤ ((Go.bits .or .i64 (Go.bits .or .i64 (ji6) t523) (ji12)) : Int) := of_decide_eq_true (by first | (with_reducible assumption) | assumption); have q15 : (Go.bits .or .i64 (Go.bits .or .i64 (ji6) t523) (ji12)) < (a91_1.size : Int) := of_decide_eq_true (by first | (with_reducible assumption) | assumption); have hx15 := bt_at a91_1 (Go.bits .or .i64 (Go.bits .or .i64 (ji6) t523) (ji12)); replace p15 := eq_true p15; replace q15 := eq_true q15; have hnb28 := NB521_522.out; have hnc28 := NB522_521.out; have hcz29_0 : w.cell? ⟨g2_, 0, none⟩ = some (.slice A92_0 l92_0.length c92_0) := (blk_cell BK521.out 0).trans rfl; have hfz29_0 := blk_frozen BK521.out 0; have hcz30_0 : w.cell? ⟨g3_, 0, none⟩ = some (.int .i64 a93_0) := (blk_cell BK522.out 0).trans rfl; have hfz30_0 := blk_frozen BK522.out 0; have p524 : 0 ≤ (a93_0 : Int) := of_decide_eq_true (by first | (with_reducible assumption) | assumption); have q524 : a93_0 < (l92_0.length : Int) := of_decide_eq_true (by first | (with_reducible assumption) | assumption); obtain ⟨ad524, e524, hx524_0⟩ := Kd.at_bool HR92_0.out a93_0 p524 q524; (try rw [← Nbq18.out] at hx524_0); cases e524; replace p524 := eq_true p524; replace q524 := eq_true q524)))
                      go_ret
                      exact ⟨by first | rfl | (simp; done) | (simp only [← hji3, ← hji4, ← hji6, ← hji12] <;> (first | rfl | simp)) | (simp [*]; done), by repeat (first | exact Drawn0.refl _ | apply Drawn0.step)⟩
                    · rw [if_neg c20] at H
                      have c20b0 : ((bt a91_1 (Go.bits .or .i64 (ji6) t523)) == 49) = false := beq_eq_false_iff_ne.mpr c20
                      have c20b1 : ((bt a91_1 (Go.bits .or .i64 (ji6) t523)) != 49) = true := bne_iff_ne.mpr c20
                      obtain rfl := Option.some.inj H
                      have hnb31 := NB519_520.out
                      have hnc31 := NB520_519.out
                      have hnb32 := NB519_521.out
                      have hnc32 := NB521_519.out
                      have hnb33 := NB519_522.out
                      have hnc33 := NB522_519.out
                      have hcz34_0 : w.cell? ⟨g0_, 0, none⟩ = some (.int .u64 a90_0) := (blk_cell BK519.out 0).trans rfl
                      have hfz34_0 := blk_frozen BK519.out 0
                      go_enter Try.func67, Try.ntmps67
                      go_wp2_with (first | (go_at_call 68; (try simp only [i64_w, i32_w]); (with_reducible refine (impl_cut.calls (wrap64 (a90_0)) a0 t523 _ A7.out).mono ?_); rintro e w' ⟨rfl, ⟨nd, rfl⟩⟩; (try first | exact ⟨rfl, _, World.drewN_drewN _ _ _⟩ | exact ⟨rfl, _, Eq.trans (World.drewN_drewN _ _ _) (congrArg (World.drewN _) (Nat.add_assoc _ _ _))⟩); have hnb35 := NB520_521.out; have hnc35 := NB521_520.out; have hnb36 := NB520_522.out; have hnc36 := NB522_520.out; have hcz37_0 : w.cell? ⟨g1_, 0, none⟩ = some (.int .i64 a91_0) := (blk_cell BK520.out 0).trans rfl; have hcz37_1 : w.cell? ⟨g1_, 1, none⟩ = some (.string a91_1) := (blk_cell BK520.out 1).trans rfl; have hfz37_0 := blk_frozen BK520.out 0; have hfz37_1 := blk_frozen BK520.out 1; have p10 : 0 ≤ ((Go.bits .or .i64 (ji6) t523) : Int) := of_decide_eq_true (by first | (with_reducible assumption) | assumption); have q10 : (Go.bits .or .i64 (ji6) t523) < (a91_1.size : Int) := of_decide_eq_true (by first | (with_reducible assumption) | assumption); have hx10 := bt_at a91_1 (Go.bits .or .i64 (ji6) t523); replace p10 := eq_true p10; replace q10 := eq_true q10; have p15 : 0 ≤ ((Go.bits .or .i64 (Go.bits .or .i64 (ji6) t523) (ji12)) : Int) := of_decide_eq_true (by first | (with_reducible assumption) | assumption); have q15 : (Go.bits .or .i64 (Go.bits .or .i64 (ji6) t523) (ji12)) < (a91_1.size : Int) := of_decide_eq_true (by first | (with_reducible assumption) | assumption); have hx15 := bt_at a91_1 (Go.bits .or .i64 (Go.bits .or .i64 (ji6) t523) (ji12)); replace p15 := eq_true p15; replace q15 := eq_true q15; have hnb38 := NB521_522.out; have hnc38 := NB522_521.out; have hcz39_0 : w.cell? ⟨g2_, 0, none⟩ = some (.slice A92_0 l92_0.length c92_0) := (blk_cell BK521.out 0).trans rfl; have hfz39_0 := blk_frozen BK521.out 0; have hcz40_0 : w.cell? ⟨g3_, 0, none⟩ = some (.int .i64 a93_0) := (blk_cell BK522.out 0).trans rfl; have hfz40_0 := blk_frozen BK522.out 0; have p524 : 0 ≤ (a93_0 : Int) := of_decide_eq_true (by first | (with_reducible assumption) | assumption); have q524 : a93_0 < (l92_0.length : Int) := of_decide_eq_true (by first | (with_reducible assumption) | assumption); obtain ⟨ad524, e524, hx524_0⟩ := Kd.at_bool HR92_0.out a93_0 p524 q524; (try rw [← Nbq18.out] at hx524_0); cases e524; replace p524 := eq_true p524; replace q524 := eq_true q524))
                      repeat (go_quiet (first | (go_at_call 68; (try simp only [i64_w, i32_w]); (with_reducible refine (impl_cut.calls (wrap64 (a90_0)) a0 t523 _ A7.out).mono ?_); rintro e w' ⟨rfl, ⟨nd, rfl⟩⟩; (try first | exact ⟨rfl, _, World.drewN_drewN _ _ _⟩ | exact ⟨rfl, _, Eq.trans (World.drewN_drewN _ _ _) (congrArg (World.drewN _) (Nat.add_assoc _ _ _))⟩); have hnb35 := NB520_521.out; have hnc35 := NB521_520.out; have hnb36 := NB520_522.out; have hnc36 := NB522_520.out; have hcz37_0 : w.cell? ⟨g1_, 0, none⟩ = some (.int .i64 a91_0) := (blk_cell BK520.out 0).trans rfl; have hcz37_1 : w.cell? ⟨g1_, 1, none⟩ = some (.string a91_1) := (blk_cell BK520.out 1).trans rfl; have hfz37_0 := blk_frozen BK520.out 0; have hfz37_1 := blk_frozen BK520.out 1; have p10 : 0 ≤ ((Go.bits .or .i64 (ji6) t523) : Int) := of_decide_eq_true (by first | (with_reducible assumption) | assumption); have q10 : (Go.bits .or .i64 (ji6) t523) < (a91_1.size : Int) := of_decide_eq_true (by first | (with_reducible assumption) | assumption); have hx10 := bt_at a91_1 (Go.bits .or .i64 (ji6) t523); replace p10 := eq_true p10; replace q10 := eq_true q10; have p15 : 0 ≤ ((Go.bits .or .i64 (Go.bits .or .i64 (ji6) t523) (ji12)) : Int) := of_decide_eq_true (by first | (with_reducible assumption) | assumption); have q15 : (Go.bits .or .i64 (Go.bits .or .i64 (ji6) t523) (ji12)) < (a91_1.size : Int) := of_decide_eq_true (by first | (with_reducible assumption) | assumption); have hx15 := bt_at a91_1 (Go.bits .or .i64 (Go.bits .or .i64 (ji6) t523) (ji12)); replace p15 := eq_true p15; replace q15 := eq_true q15; have hnb38 := NB521_522.out; have hnc38 := NB522_521.out; have hcz39_0 : w.cell? ⟨g2_, 0, none⟩ = some (.slice A92_0 l92_0.length c92_0) := (blk_cell BK521.out 0).trans rfl; have hfz39_0 := blk_frozen BK521.out 0; have hcz40_0 : w.cell? ⟨g3_, 0, none⟩ = some (.int .i64 a93_0) := (blk_cell BK522.out 0).trans rfl; have hfz40_0 := blk_frozen BK522.out 0; have p524 : 0 ≤ (a93_0 : Int) := of_decide_eq_true (by first | (with_reducible assumption) | assumption); have q524 : a93_0 < (l92_0.length : Int) := of_decide_eq_true (by first | (with_reducible assumption) | assumption); obtain ⟨ad524, e524, hx524_0⟩ := Kd.at_bool HR92_0.out a93_0 p524 q524; (try rw [← Nbq18.out] at hx524_0); cases e524; replace p524 := eq_true p524; replace q524 := eq_true q524)); try go_wp2_with (first | (go_at_call 68; (try simp only [i64_w, i32_w]); (with_reducible refine (impl_cut.calls (wrap64 (a90_0)) a0 t523 _ A7.out).mono ?_); rintro e w' ⟨rfl, ⟨nd, rfl⟩⟩; (try first | exact ⟨rfl, _, World.drewN_drewN _ _ _⟩ | exact ⟨rfl, _, Eq.trans (World.drewN_drewN _ _ _) (congrArg (World.drewN _) (Nat.add_assoc _ _ _))⟩); have hnb35 := NB520_521.out; have hnc35 := NB521_520.out; have hnb36 := NB520_522.out; have hnc36 := NB522_520.out; have hcz37_0 : w.cell? ⟨g1_, 0, none⟩ = some (.int .i64 a91_0) := (blk_cell BK520.out 0).trans rfl; have hcz37_1 : w.cell? ⟨g1_, 1, none⟩ = some (.string a91_1) := (blk_cell BK520.out 1).trans rfl; have hfz37_0 := blk_frozen BK520.out 0; have hfz37_1 := blk_frozen BK520.out 1; have p10 : 0 ≤ ((Go.bits .or .i64 (ji6) t523) : Int) := of_decide_eq_true (by first | (with_reducible assumption) | assumption); have q10 : (Go.bits .or .i64 (ji6) t523) < (a91_1.size : Int) := of_decide_eq_true (by first | (with_reducible assumption) | assumption); have hx10 := bt_at a91_1 (Go.bits .or .i64 (ji6) t523); replace p10 := eq_true p10; replace q10 := eq_true q10; have p15 : 0 ≤ ((Go.bits .or .i64 (Go.bits .or .i64 (ji6) t523) (ji12)) : Int) := of_decide_eq_true (by first | (with_reducible assumption) | assumption); have q15 : (Go.bits .or .i64 (Go.bits .or .i64 (ji6) t523) (ji12)) < (a91_1.size : Int) := of_decide_eq_true (by first | (with_reducible assumption) | assumption); have hx15 := bt_at a91_1 (Go.bits .or .i64 (Go.bits .or .i64 (ji6) t523) (ji12)); replace p15 := eq_true p15; replace q15 := eq_true q15; have hnb38 := NB521_522.out; have hnc38 := NB522_521.out; have hcz39_0 : w.cell? ⟨g2_, 0, none⟩ = some (.slice A92_0 l92_0.length c92_0) := (blk_cell BK521.out 0).trans rfl; have hfz39_0 := blk_frozen BK521.out 0; have hcz40_0 : w.cell? ⟨g3_, 0, none⟩ = some (.int .i64 a93_0) := (blk_cell BK522.out 0).trans rfl; have hfz40_0 := blk_frozen BK522.out 0; have p524 : 0 ≤ (a93_0 : Int) := of_decide_eq_true (by first | (with_reducible assumption) | assumption); have q524 : a93_0 < (l92_0.length : Int) := of_decide_eq_true (by first | (with_reducible assumption) | assumption); obtain ⟨ad524, e524, hx524_0⟩ := Kd.at_bool HR92_0.out a93_0 p524 q524; (try rw [← Nbq18.out] at hx524_0); cases e524; replace p524 := eq_true p524; replace q524 := eq_true q524)))
                      go_ret
                      exact ⟨by first | rfl | (simp; done) | (simp only [← hji3, ← hji4, ← hji6, ← hji12] <;> (first | rfl | simp)) | (simp [*]; done), by repeat (first | exact Drawn0.refl _ | apply Drawn0.step)⟩
                  · replace c19 := Bool.eq_false_iff.mpr c19
                    subst c19
                    have H1 : (if (bt a91_1 (Go.bits .or .i64 (ji6) t523)) = 49 then (some true) else (some ((bt a91_1 (Go.bits .or .i64 (Go.bits .or .i64 (ji6) t523) (ji12))) == 49))) = some r := by rw [if_neg (show ¬ (false = true) by decide)] at H; exact H
                    clear H
                    have H := H1
                    clear H1
                    by_cases c41 : (bt a91_1 (Go.bits .or .i64 (ji6) t523)) = 49
                    · rw [if_pos c41] at H
                      have c41b0 : ((bt a91_1 (Go.bits .or .i64 (ji6) t523)) == 49) = true := beq_iff_eq.mpr c41
                      have c41b1 : ((bt a91_1 (Go.bits .or .i64 (ji6) t523)) != 49) = false := bne_eq_false_iff_eq.mpr c41
                      clear c41
                      obtain rfl := Option.some.inj H
                      have hnb42 := NB519_520.out
                      have hnc42 := NB520_519.out
                      have hnb43 := NB519_521.out
                      have hnc43 := NB521_519.out
                      have hnb44 := NB519_522.out
                      have hnc44 := NB522_519.out
                      have hcz45_0 : w.cell? ⟨g0_, 0, none⟩ = some (.int .u64 a90_0) := (blk_cell BK519.out 0).trans rfl
                      have hfz45_0 := blk_frozen BK519.out 0
                      go_enter Try.func67, Try.ntmps67
                      go_wp2_with (first | (go_at_call 68; (try simp only [i64_w, i32_w]); (with_reducible refine (impl_cut.calls (wrap64 (a90_0)) a0 t523 _ A7.out).mono ?_); rintro e w' ⟨rfl, ⟨nd, rfl⟩⟩; (try first | exact ⟨rfl, _, World.drewN_drewN _ _ _⟩ | exact ⟨rfl, _, Eq.trans (World.drewN_drewN _ _ _) (congrArg (World.drewN _) (Nat.add_assoc _ _ _))⟩); have hnb46 := NB520_521.out; have hnc46 := NB521_520.out; have hnb47 := NB520_522.out; have hnc47 := NB522_520.out; have hcz48_0 : w.cell? ⟨g1_, 0, none⟩ = some (.int .i64 a91_0) := (blk_cell BK520.out 0).trans rfl; have hcz48_1 : w.cell? ⟨g1_, 1, none⟩ = some (.string a91_1) := (blk_cell BK520.out 1).trans rfl; have hfz48_0 := blk_frozen BK520.out 0; have hfz48_1 := blk_frozen BK520.out 1; have p10 : 0 ≤ ((Go.bits .or .i64 (ji6) t523) : Int) := of_decide_eq_true (by first | (with_reducible assumption) | assumption); have q10 : (Go.bits .or .i64 (ji6) t523) < (a91_1.size : Int) := of_decide_eq_true (by first | (with_reducible assumption) | assumption); have hx10 := bt_at a91_1 (Go.bits .or .i64 (ji6) t523); replace p10 := eq_true p10; replace q10 := eq_true q10; have p15 : 0 ≤ ((Go.bits .or .i64 (Go.bits .or .i64 (ji6) t523) (ji12)) : Int) := of_decide_eq_true (by first | (with_reducible assumption) | assumption); have q15 : (Go.bits .or .i64 (Go.bits .or .i64 (ji6) t523) (ji12)) < (a91_1.size : Int) := of_decide_eq_true (by first | (with_reducible assumption) | assumption); have hx15 := bt_at a91_1 (Go.bits .or .i64 (Go.bits .or .i64 (ji6) t523) (ji12)); replace p15 := eq_true p15; replace q15 := eq_true q15; have hnb49 := NB521_522.out; have hnc49 := NB522_521.out; have hcz50_0 : w.cell? ⟨g2_, 0, none⟩ = some (.slice A92_0 l92_0.length c92_0) := (blk_cell BK521.out 0).trans rfl; have hfz50_0 := blk_frozen BK521.out 0; have hcz51_0 : w.cell? ⟨g3_, 0, none⟩ = some (.int .i64 a93_0) := (blk_cell BK522.out 0).trans rfl; have hfz51_0 := blk_frozen BK522.out 0; have p524 : 0 ≤ (a93_0 : Int) := of_decide_eq_true (by first | (with_reducible assumption) | assumption); have q524 : a93_0 < (l92_0.length : Int) := of_decide_eq_true (by first | (with_reducible assumption) | assumption); obtain ⟨ad524, e524, hx524_0⟩ := Kd.at_bool HR92_0.out a93_0 p524 q524; (try rw [← Nbq18.out] at hx524_0); cases e524; replace p524 := eq_true p524; replace q524 := eq_true q524))
                      repeat (go_quiet (first | (go_at_call 68; (try simp only [i64_w, i32_w]); (with_reducible refine (impl_cut.calls (wrap64 (a90_0)) a0 t523 _ A7.out).mono ?_); rintro e w' ⟨rfl, ⟨nd, rfl⟩⟩; (try first | exact ⟨rfl, _, World.drewN_drewN _ _ _⟩ | exact ⟨rfl, _, Eq.trans (World.drewN_drewN _ _ _) (congrArg (World.drewN _) (Nat.add_assoc _ _ _))⟩); have hnb46 := NB520_521.out; have hnc46 := NB521_520.out; have hnb47 := NB520_522.out; have hnc47 := NB522_520.out; have hcz48_0 : w.cell? ⟨g1_, 0, none⟩ = some (.int .i64 a91_0) := (blk_cell BK520.out 0).trans rfl; have hcz48_1 : w.cell? ⟨g1_, 1, none⟩ = some (.string a91_1) := (blk_cell BK520.out 1).trans rfl; have hfz48_0 := blk_frozen BK520.out 0; have hfz48_1 := blk_frozen BK520.out 1; have p10 : 0 ≤ ((Go.bits .or .i64 (ji6) t523) : Int) := of_decide_eq_true (by first | (with_reducible assumption) | assumption); have q10 : (Go.bits .or .i64 (ji6) t523) < (a91_1.size : Int) := of_decide_eq_true (by first | (with_reducible assumption) | assumption); have hx10 := bt_at a91_1 (Go.bits .or .i64 (ji6) t523); replace p10 := eq_true p10; replace q10 := eq_true q10; have p15 : 0 ≤ ((Go.bits .or .i64 (Go.bits .or .i64 (ji6) t523) (ji12)) : Int) := of_decide_eq_true (by first | (with_reducible assumption) | assumption); have q15 : (Go.bits .or .i64 (Go.bits .or .i64 (ji6) t523) (ji12)) < (a91_1.size : Int) := of_decide_eq_true (by first | (with_reducible assumption) | assumption); have hx15 := bt_at a91_1 (Go.bits .or .i64 (Go.bits .or .i64 (ji6) t523) (ji12)); replace p15 := eq_true p15; replace q15 := eq_true q15; have hnb49 := NB521_522.out; have hnc49 := NB522_521.out; have hcz50_0 : w.cell? ⟨g2_, 0, none⟩ = some (.slice A92_0 l92_0.length c92_0) := (blk_cell BK521.out 0).trans rfl; have hfz50_0 := blk_frozen BK521.out 0; have hcz51_0 : w.cell? ⟨g3_, 0, none⟩ = some (.int .i64 a93_0) := (blk_cell BK522.out 0).trans rfl; have hfz51_0 := blk_frozen BK522.out 0; have p524 : 0 ≤ (a93_0 : Int) := of_decide_eq_true (by first | (with_reducible assumption) | assumption); have q524 : a93_0 < (l92_0.length : Int) := of_decide_eq_true (by first | (with_reducible assumption) | assumption); obtain ⟨ad524, e524, hx524_0⟩ := Kd.at_bool HR92_0.out a93_0 p524 q524; (try rw [← Nbq18.out] at hx524_0); cases e524; replace p524 := eq_true p524; replace q524 := eq_true q524)); try go_wp2_with (first | (go_at_call 68; (try simp only [i64_w, i32_w]); (with_reducible refine (impl_cut.calls (wrap64 (a90_0)) a0 t523 _ A7.out).mono ?_); rintro e w' ⟨rfl, ⟨nd, rfl⟩⟩; (try first | exact ⟨rfl, _, World.drewN_drewN _ _ _⟩ | exact ⟨rfl, _, Eq.trans (World.drewN_drewN _ _ _) (congrArg (World.drewN _) (Nat.add_assoc _ _ _))⟩); have hnb46 := NB520_521.out; have hnc46 := NB521_520.out; have hnb47 := NB520_522.out; have hnc47 := NB522_520.out; have hcz48_0 : w.cell? ⟨g1_, 0, none⟩ = some (.int .i64 a91_0) := (blk_cell BK520.out 0).trans rfl; have hcz48_1 : w.cell? ⟨g1_, 1, none⟩ = some (.string a91_1) := (blk_cell BK520.out 1).trans rfl; have hfz48_0 := blk_frozen BK520.out 0; have hfz48_1 := blk_frozen BK520.out 1; have p10 : 0 ≤ ((Go.bits .or .i64 (ji6) t523) : Int) := of_decide_eq_true (by first | (with_reducible assumption) | assumption); have q10 : (Go.bits .or .i64 (ji6) t523) < (a91_1.size : Int) := of_decide_eq_true (by first | (with_reducible assumption) | assumption); have hx10 := bt_at a91_1 (Go.bits .or .i64 (ji6) t523); replace p10 := eq_true p10; replace q10 := eq_true q10; have p15 : 0 ≤ ((Go.bits .or .i64 (Go.bits .or .i64 (ji6) t523) (ji12)) : Int) := of_decide_eq_true (by first | (with_reducible assumption) | assumption); have q15 : (Go.bits .or .i64 (Go.bits .or .i64 (ji6) t523) (ji12)) < (a91_1.size : Int) := of_decide_eq_true (by first | (with_reducible assumption) | assumption); have hx15 := bt_at a91_1 (Go.bits .or .i64 (Go.bits .or .i64 (ji6) t523) (ji12)); replace p15 := eq_true p15; replace q15 := eq_true q15; have hnb49 := NB521_522.out; have hnc49 := NB522_521.out; have hcz50_0 : w.cell? ⟨g2_, 0, none⟩ = some (.slice A92_0 l92_0.length c92_0) := (blk_cell BK521.out 0).trans rfl; have hfz50_0 := blk_frozen BK521.out 0; have hcz51_0 : w.cell? ⟨g3_, 0, none⟩ = some (.int .i64 a93_0) := (blk_cell BK522.out 0).trans rfl; have hfz51_0 := blk_frozen BK522.out 0; have p524 : 0 ≤ (a93_0 : Int) := of_decide_eq_true (by first | (with_reducible assumption) | assumption); have q524 : a93_0 < (l92_0.length : Int) := of_decide_eq_true (by first | (with_reducible assumption) | assumption); obtain ⟨ad524, e524, hx524_0⟩ := Kd.at_bool HR92_0.out a93_0 p524 q524; (try rw [← Nbq18.out] at hx524_0); cases e524; replace p524 := eq_true p524; replace q524 := eq_true q524)))
                      go_ret
                      exact ⟨by first | rfl | (simp; done) | (simp only [← hji3, ← hji4, ← hji6, ← hji12] <;> (first | rfl | simp)) | (simp [*]; done), by repeat (first | exact Drawn0.refl _ | apply Drawn0.step)⟩
                    · rw [if_neg c41] at H
                      have c41b0 : ((bt a91_1 (Go.bits .or .i64 (ji6) t523)) == 49) = false := beq_eq_false_iff_ne.mpr c41
                      have c41b1 : ((bt a91_1 (Go.bits .or .i64 (ji6) t523)) != 49) = true := bne_iff_ne.mpr c41
                      obtain rfl := Option.some.inj H
                      have hnb52 := NB519_520.out
                      have hnc52 := NB520_519.out
                      have hnb53 := NB519_521.out
                      have hnc53 := NB521_519.out
                      have hnb54 := NB519_522.out
                      have hnc54 := NB522_519.out
                      have hcz55_0 : w.cell? ⟨g0_, 0, none⟩ = some (.int .u64 a90_0) := (blk_cell BK519.out 0).trans rfl
                      have hfz55_0 := blk_frozen BK519.out 0
                      go_enter Try.func67, Try.ntmps67
                      go_wp2_with (first | (go_at_call 68; (try simp only [i64_w, i32_w]); (with_reducible refine (impl_cut.calls (wrap64 (a90_0)) a0 t523 _ A7.out).mono ?_); rintro e w' ⟨rfl, ⟨nd, rfl⟩⟩; (try first | exact ⟨rfl, _, World.drewN_drewN _ _ _⟩ | exact ⟨rfl, _, Eq.trans (World.drewN_drewN _ _ _) (congrArg (World.drewN _) (Nat.add_assoc _ _ _))⟩); have hnb56 := NB520_521.out; have hnc56 := NB521_520.out; have hnb57 := NB520_522.out; have hnc57 := NB522_520.out; have hcz58_0 : w.cell? ⟨g1_, 0, none⟩ = some (.int .i64 a91_0) := (blk_cell BK520.out 0).trans rfl; have hcz58_1 : w.cell? ⟨g1_, 1, none⟩ = some (.string a91_1) := (blk_cell BK520.out 1).trans rfl; have hfz58_0 := blk_frozen BK520.out 0; have hfz58_1 := blk_frozen BK520.out 1; have p10 : 0 ≤ ((Go.bits .or .i64 (ji6) t523) : Int) := of_decide_eq_true (by first | (with_reducible assumption) | assumption); have q10 : (Go.bits .or .i64 (ji6) t523) < (a91_1.size : Int) := of_decide_eq_true (by first | (with_reducible assumption) | assumption); have hx10 := bt_at a91_1 (Go.bits .or .i64 (ji6) t523); replace p10 := eq_true p10; replace q10 := eq_true q10; have p15 : 0 ≤ ((Go.bits .or .i64 (Go.bits .or .i64 (ji6) t523) (ji12)) : Int) := of_decide_eq_true (by first | (with_reducible assumption) | assumption); have q15 : (Go.bits .or .i64 (Go.bits .or .i64 (ji6) t523) (ji12)) < (a91_1.size : Int) := of_decide_eq_true (by first | (with_reducible assumption) | assumption); have hx15 := bt_at a91_1 (Go.bits .or .i64 (Go.bits .or .i64 (ji6) t523) (ji12)); replace p15 := eq_true p15; replace q15 := eq_true q15; have hnb59 := NB521_522.out; have hnc59 := NB522_521.out; have hcz60_0 : w.cell? ⟨g2_, 0, none⟩ = some (.slice A92_0 l92_0.length c92_0) := (blk_cell BK521.out 0).trans rfl; have hfz60_0 := blk_frozen BK521.out 0; have hcz61_0 : w.cell? ⟨g3_, 0, none⟩ = some (.int .i64 a93_0) := (blk_cell BK522.out 0).trans rfl; have hfz61_0 := blk_frozen BK522.out 0; have p524 : 0 ≤ (a93_0 : Int) := of_decide_eq_true (by first | (with_reducible assumption) | assumption); have q524 : a93_0 < (l92_0.length : Int) := of_decide_eq_true (by first | (with_reducible assumption) | assumption); obtain ⟨ad524, e524, hx524_0⟩ := Kd.at_bool HR92_0.out a93_0 p524 q524; (try rw [← Nbq18.out] at hx524_0); cases e524; replace p524 := eq_true p524; replace q524 := eq_true q524))
                      repeat (go_quiet (first | (go_at_call 68; (try simp only [i64_w, i32_w]); (with_reducible refine (impl_cut.calls (wrap64 (a90_0)) a0 t523 _ A7.out).mono ?_); rintro e w' ⟨rfl, ⟨nd, rfl⟩⟩; (try first | exact ⟨rfl, _, World.drewN_drewN _ _ _⟩ | exact ⟨rfl, _, Eq.trans (World.drewN_drewN _ _ _) (congrArg (World.drewN _) (Nat.add_assoc _ _ _))⟩); have hnb56 := NB520_521.out; have hnc56 := NB521_520.out; have hnb57 := NB520_522.out; have hnc57 := NB522_520.out; have hcz58_0 : w.cell? ⟨g1_, 0, none⟩ = some (.int .i64 a91_0) := (blk_cell BK520.out 0).trans rfl; have hcz58_1 : w.cell? ⟨g1_, 1, none⟩ = some (.string a91_1) := (blk_cell BK520.out 1).trans rfl; have hfz58_0 := blk_frozen BK520.out 0; have hfz58_1 := blk_frozen BK520.out 1; have p10 : 0 ≤ ((Go.bits .or .i64 (ji6) t523) : Int) := of_decide_eq_true (by first | (with_reducible assumption) | assumption); have q10 : (Go.bits .or .i64 (ji6) t523) < (a91_1.size : Int) := of_decide_eq_true (by first | (with_reducible assumption) | assumption); have hx10 := bt_at a91_1 (Go.bits .or .i64 (ji6) t523); replace p10 := eq_true p10; replace q10 := eq_true q10; have p15 : 0 ≤ ((Go.bits .or .i64 (Go.bits .or .i64 (ji6) t523) (ji12)) : Int) := of_decide_eq_true (by first | (with_reducible assumption) | assumption); have q15 : (Go.bits .or .i64 (Go.bits .or .i64 (ji6) t523) (ji12)) < (a91_1.size : Int) := of_decide_eq_true (by first | (with_reducible assumption) | assumption); have hx15 := bt_at a91_1 (Go.bits .or .i64 (Go.bits .or .i64 (ji6) t523) (ji12)); replace p15 := eq_true p15; replace q15 := eq_true q15; have hnb59 := NB521_522.out; have hnc59 := NB522_521.out; have hcz60_0 : w.cell? ⟨g2_, 0, none⟩ = some (.slice A92_0 l92_0.length c92_0) := (blk_cell BK521.out 0).trans rfl; have hfz60_0 := blk_frozen BK521.out 0; have hcz61_0 : w.cell? ⟨g3_, 0, none⟩ = some (.int .i64 a93_0) := (blk_cell BK522.out 0).trans rfl; have hfz61_0 := blk_frozen BK522.out 0; have p524 : 0 ≤ (a93_0 : Int) := of_decide_eq_true (by first | (with_reducible assumption) | assumption); have q524 : a93_0 < (l92_0.length : Int) := of_decide_eq_true (by first | (with_reducible assumption) | assumption); obtain ⟨ad524, e524, hx524_0⟩ := Kd.at_bool HR92_0.out a93_0 p524 q524; (try rw [← Nbq18.out] at hx524_0); cases e524; replace p524 := eq_true p524; replace q524 := eq_true q524)); try go_wp2_with (first | (go_at_call 68; (try simp only [i64_w, i32_w]); (with_reducible refine (impl_cut.calls (wrap64 (a90_0)) a0 t523 _ A7.out).mono ?_); rintro e w' ⟨rfl, ⟨nd, rfl⟩⟩; (try first | exact ⟨rfl, _, World.drewN_drewN _ _ _⟩ | exact ⟨rfl, _, Eq.trans (World.drewN_drewN _ _ _) (congrArg (World.drewN _) (Nat.add_assoc _ _ _))⟩); have hnb56 := NB520_521.out; have hnc56 := NB521_520.out; have hnb57 := NB520_522.out; have hnc57 := NB522_520.out; have hcz58_0 : w.cell? ⟨g1_, 0, none⟩ = some (.int .i64 a91_0) := (blk_cell BK520.out 0).trans rfl; have hcz58_1 : w.cell? ⟨g1_, 1, none⟩ = some (.string a91_1) := (blk_cell BK520.out 1).trans rfl; have hfz58_0 := blk_frozen BK520.out 0; have hfz58_1 := blk_frozen BK520.out 1; have p10 : 0 ≤ ((Go.bits .or .i64 (ji6) t523) : Int) := of_decide_eq_true (by first | (with_reducible assumption) | assumption); have q10 : (Go.bits .or .i64 (ji6) t523) < (a91_1.size : Int) := of_decide_eq_true (by first | (with_reducible assumption) | assumption); have hx10 := bt_at a91_1 (Go.bits .or .i64 (ji6) t523); replace p10 := eq_true p10; replace q10 := eq_true q10; have p15 : 0 ≤ ((Go.bits .or .i64 (Go.bits .or .i64 (ji6) t523) (ji12)) : Int) := of_decide_eq_true (by first | (with_reducible assumption) | assumption); have q15 : (Go.bits .or .i64 (Go.bits .or .i64 (ji6) t523) (ji12)) < (a91_1.size : Int) := of_decide_eq_true (by first | (with_reducible assumption) | assumption); have hx15 := bt_at a91_1 (Go.bits .or .i64 (Go.bits .or .i64 (ji6) t523) (ji12)); replace p15 := eq_true p15; replace q15 := eq_true q15; have hnb59 := NB521_522.out; have hnc59 := NB522_521.out; have hcz60_0 : w.cell? ⟨g2_, 0, none⟩ = some (.slice A92_0 l92_0.length c92_0) := (blk_cell BK521.out 0).trans rfl; have hfz60_0 := blk_frozen BK521.out 0; have hcz61_0 : w.cell? ⟨g3_, 0, none⟩ = some (.int .i64 a93_0) := (blk_cell BK522.out 0).trans rfl; have hfz61_0 := blk_frozen BK522.out 0; have p524 : 0 ≤ (a93_0 : Int) := of_decide_eq_true (by first | (with_reducible assumption) | assumption); have q524 : a93_0 < (l92_0.length : Int) := of_decide_eq_true (by first | (with_reducible assumption) | assumption); obtain ⟨ad524, e524, hx524_0⟩ := Kd.at_bool HR92_0.out a93_0 p524 q524; (try rw [← Nbq18.out] at hx524_0); cases e524; replace p524 := eq_true p524; replace q524 := eq_true q524)))
                      go_ret
                      exact ⟨by first | rfl | (simp; done) | (simp only [← hji3, ← hji4, ← hji6, ← hji12] <;> (first | rfl | simp)) | (simp [*]; done), by repeat (first | exact Drawn0.refl _ | apply Drawn0.step)⟩
                · rw [if_neg c17] at H
                  exact absurd H (by simp)
              · rw [if_neg c16] at H
                exact absurd H (by simp)
            · rw [if_neg c14] at H
              exact absurd H (by simp)
          · rw [if_neg c13] at H
            exact absurd H (by simp)
        · rw [if_neg c9] at H
          exact absurd H (by simp)
      · rw [if_neg c8] at H
        exact absurd H (by simp)
    · rw [if_neg c5] at H
      exact absurd H (by simp)
  · rw [if_neg c2] at H
    exact absurd H (by simp)

end Go.Proofs.Ytfincfnklcllnaa.G
-- written by a program of this session (wip/gen/gen.py); Lean checks it
namespace Go.Proofs.Ytfincfnklcllnaa.G
open Go.RowKit Go.Proofs.YtfincfnklcllnaaW.PrintWords Go.Proofs.YtfincfnklcllnaaW.PrintLast Go.Proofs.YtfincfnklcllnaaW.PrintMore
attribute [local go_sem] max2_int min2_int max_two min_two max_three min_three max_four min_four   -- for this text's walks alone
set_option linter.unusedVariables false
set_option linter.unusedSimpArgs false

/-! ### impl_bit: function 72 -/
def impl_bit.f (a0 : Bool) : Option (Int) := if a0 = true then (some 1) else (some 0)
set_option maxHeartbeats 8000000 in
set_option maxRecDepth 100000 in
theorem impl_bit.calls (a0 : Bool) (r : Int) (w : World) (h : impl_bit.f a0 = some r) :
    Calls Try.prog 72 #[.bool a0] w fun e w' => e = .returned (.int .i64 r) ∧ Drawn0 w w' := by
  have H : (if a0 = true then (some 1) else (some 0)) = some r := h
  clear h
  by_cases c2 : a0 = true
  · subst c2
    have H1 : (some 1) = some r := by rw [if_pos rfl] at H; exact H
    clear H
    have H := H1
    clear H1
    obtain rfl := Option.some.inj H
    go_enter Try.func72, Try.ntmps72
    go_wp2
    go_ret
    exact ⟨by first | rfl | (simp; done) | (simp [*]; done), by repeat (first | exact Drawn0.refl _ | apply Drawn0.step)⟩
  · replace c2 := Bool.eq_false_iff.mpr c2
    subst c2
    have H1 : (some 0) = some r := by rw [if_neg (show ¬ (false = true) by decide)] at H; exact H
    clear H
    have H := H1
    clear H1
    obtain rfl := Option.some.inj H
    go_enter Try.func72, Try.ntmps72
    go_wp2
    go_ret
    exact ⟨by first | rfl | (simp; done) | (simp [*]; done), by repeat (first | exact Drawn0.refl _ | apply Drawn0.step)⟩

end Go.Proofs.Ytfincfnklcllnaa.G
-- written by a program of this session (wip/gen/gen.py); Lean checks it
namespace Go.Proofs.Ytfincfnklcllnaa.G
open Go.RowKit Go.Proofs.YtfincfnklcllnaaW.PrintWords Go.Proofs.YtfincfnklcllnaaW.PrintLast Go.Proofs.YtfincfnklcllnaaW.PrintMore
attribute [local go_sem] max2_int min2_int max_two min_two max_three min_three max_four min_four   -- for this text's walks alone
set_option linter.unusedVariables false
set_option linter.unusedSimpArgs false

/-! ### impl_sign: function 71 -/
def impl_sign.f (a0 : Int) : Option (Int) := some ((wrap64 (48 + (Go.bits .and .i64 a0 1))) % 256)
set_option maxHeartbeats 8000000 in
set_option maxRecDepth 100000 in
theorem impl_sign.calls (a0 : Int) (r : Int) (w : World) (h : impl_sign.f a0 = some r) :
    Calls Try.prog 71 #[.int .i64 a0] w fun e w' => e = .returned (.int .u8 r) ∧ Drawn0 w w' := by
  have H : (some ((wrap64 (48 + (Go.bits .and .i64 a0 1))) % 256)) = some r := h
  clear h
  obtain rfl := Option.some.inj H
  go_enter Try.func71, Try.ntmps71
  go_wp2
  go_ret
  exact ⟨by first | rfl | (simp; done) | (simp [*]; done), by repeat (first | exact Drawn0.refl _ | apply Drawn0.step)⟩

end Go.Proofs.Ytfincfnklcllnaa.G
-- written by a program of this session (wip/gen/gen.py); Lean checks it
namespace Go.Proofs.Ytfincfnklcllnaa.G
open Go.RowKit Go.Proofs.YtfincfnklcllnaaW.PrintWords Go.Proofs.YtfincfnklcllnaaW.PrintLast Go.Proofs.YtfincfnklcllnaaW.PrintMore
attribute [local go_sem] max2_int min2_int max_two min_two max_three min_three max_four min_four   -- for this text's walks alone
set_option linter.unusedVariables false
set_option linter.unusedSimpArgs false

open Go.Proofs.Ytfincfnklcllnaa.Fv
/-! ### impl_Table_each: function 53 -/
def impl_Table_each.l0 (a1 : (Int → Option Bool)) : Nat → List Int → Int → Int → Int → ByteArray → Option (Int × ByteArray)
  | 0, _, _, _, _, _ => none
  | k + 1, x5, x12, x13, x220000, x220001 => if x13 < x12 then ((a1 x13).bind fun t224 => ((impl_bit.f t224).bind fun t225 => ((impl_sign.f t225).bind fun t226 => (if 0 ≤ x13 then (if x13 < (x5.length : Int) then (impl_Table_each.l0 a1 k (x5.set (x13 : Int).toNat t226) x12 (wrap64 (x13 + 1)) x220000 x220001) else (none)) else (none))))) else (some (x220000, strOfNums x5))
def impl_Table_each.f (k : Nat) (a0_0 : Int) (a0_1 : ByteArray) (a1 : (Int → Option Bool)) : Option (Int × ByteArray) := if 0 ≤ (a0_1.size : Int) then (if ((a0_1.size : Int) : Int).toNat ≤ 281474976710656 then ((some (List.replicate ((a0_1.size : Int) : Int).toNat 0 : List Int)).bind fun y221 => (impl_Table_each.l0 a1 k y221 (y221.length : Int) 0 a0_0 a0_1)) else (none)) else (none)
set_option maxHeartbeats 8000000 in
set_option maxRecDepth 100000 in
theorem impl_Table_each.calls (k : Nat) (a0_0 : Int) (a0_1 : ByteArray) (c1_ : Nat) (q1_ : Array Value) (a1 : (Int → Option Bool)) (r1 : Int) (r2 : ByteArray) (w : World) (hf1_ : Enterable Try.prog c1_) (hp1_ : ∀ W_, Below w.heap.size w W_ → ∀ x_ r_, a1 x_ = some r_ → Calls Try.prog c1_ (#[.int .i64 x_] ++ q1_) W_ fun e_ W2_ => e_ = .returned (.bool r_) ∧ Below W_.heap.size W_ W2_) (h : impl_Table_each.f k a0_0 a0_1 a1 = some (r1, r2)) :
    Calls Try.prog 53 #[.agg #[.int .i64 a0_0, .string a0_1], .func (.func c1_) #[] q1_] w fun e w' => e = .returned (.agg #[.int .i64 r1, .string r2]) ∧ Below w.heap.size w w' := by
  have hu32 := Try.underlying32
  have HF1_ := hf1_
  have HP1_ := Aside0.mk hp1_
  clear hf1_ hp1_
  have HB := Aside0.mk (Below.refl w.heap.size w)
  have H : (if 0 ≤ (a0_1.size : Int) then (if ((a0_1.size : Int) : Int).toNat ≤ 281474976710656 then ((some (List.replicate ((a0_1.size : Int) : Int).toNat 0 : List Int)).bind fun y221 => (impl_Table_each.l0 a1 k y221 (y221.length : Int) 0 a0_0 a0_1)) else (none)) else (none)) = some (r1, r2) := h
  clear h
  by_cases c3 : 0 ≤ (a0_1.size : Int)
  · rw [if_pos c3] at H
    have c3b0 := eq_true c3
    have c3b1 : decide (0 ≤ (a0_1.size : Int)) = true := decide_eq_true c3
    clear c3
    by_cases c4 : ((a0_1.size : Int) : Int).toNat ≤ 281474976710656
    · rw [if_pos c4] at H
      have c4b0 := eq_true c4
      have c4b1 : decide (((a0_1.size : Int) : Int).toNat ≤ 281474976710656) = true := decide_eq_true c4
      clear c4
      obtain ⟨y221, hy221⟩ : ∃ y_ : List Int, y_ = (List.replicate ((a0_1.size : Int) : Int).toNat 0) := ⟨_, rfl⟩
      replace H : (impl_Table_each.l0 a1 k y221 (y221.length : Int) 0 a0_0 a0_1) = some (r1, r2) := by first | (rw [hy221]; with_reducible exact H) | (have H2_ := (Option.bind_some _ _).symm.trans H; rw [hy221]; with_reducible exact H2_) | (have H2_ := (Option.bind_some _ _).symm.trans H; with_reducible exact H2_) | with_reducible exact H | (rw [hy221]; exact H) | exact H
      have Ny221 := Aside0.mk hy221
      clear hy221
      have H' := Aside0.mk H
      clear H
      go_enter Try.func53, Try.ntmps53
      go_wp2_with (first | ((with_reducible refine gate_dst (N := 2) rfl ?_); refine box_event ?hg (N := 2) ?hd (cs := #[.int .i64 a0_0, .string a0_1]) (t := 32) ?hr ?_; (case hd => rfl); (case hg => rfl); (case hr => first | (go_simp; done) | (go_simp; rfl)); intro gb219 hg w5 hbox hb; have n0_ := Aside0.mk (below_step (by repeat (first | (with_reducible first | exact HB.out | apply below_alloc | apply pw_below_drewN | apply below_drew1) | exact HB.out)) hb); have n1_ := Aside0.mk (hbox); have n2_ := Aside0.mk ((by rw [hg]; exact (below_size (by repeat (first | (with_reducible first | exact HB.out | apply below_alloc | apply pw_below_drewN | apply below_drew1) | exact HB.out))) : w.heap.size ≤ gb219)); have n3_ := Aside0.mk ((by rw [hg]; exact (below_size (by repeat (first | (with_reducible first | exact HB.out | apply below_alloc | apply pw_below_drewN | apply below_drew1) | exact HB.out))) : w.heap.size ≤ gb219)); clear HB; have HB := n0_; have BK219 := n1_; have GW219 := n2_; have GE219 := n3_; clear n0_ n1_ n2_ n3_; clear hb hbox hg) | ((with_reducible refine gate_dst (N := 4) rfl ?_); refine box_event ?hg (N := 4) ?hd (cs := #[.int .i64 0, .string (⟨#[]⟩ : ByteArray)]) (t := 32) ?hr ?_; (case hd => rfl); (case hg => rfl); (case hr => first | (go_simp; done) | (go_simp; rfl)); intro gb220 hg w6 hbox hb; have n0_ := Aside0.mk (blk_below (g := gb219) (o := .cells #[.int .i64 a0_0, .string a0_1] 32 (0, 0)) (by (with_reducible repeat (first | refine blk_drewN ?_ _ | refine blk_drew ?_ | refine blk_alloc ?_ _)); exact BK219.out) hb); have n1_ := Aside0.mk (below_step (by repeat (first | (with_reducible first | exact HB.out | apply below_alloc | apply pw_below_drewN | apply below_drew1 | refine below_set ?_ GE219.out) | exact HB.out)) hb); have n2_ := Aside0.mk (hbox); have n3_ := Aside0.mk ((by rw [hg]; exact (below_size (by repeat (first | (with_reducible first | exact HB.out | apply below_alloc | apply pw_below_drewN | apply below_drew1 | refine below_set ?_ GE219.out) | exact HB.out))) : w.heap.size ≤ gb220)); have n4_ := Aside0.mk ((by rw [hg]; exact (below_size (by repeat (first | (with_reducible first | exact HB.out | apply below_alloc | apply pw_below_drewN | apply below_drew1 | refine below_set ?_ GE219.out) | exact HB.out))) : w.heap.size ≤ gb220)); have n5_ := Aside0.mk ((by rw [hg]; exact Nat.ne_of_lt (blk_lt (g := gb219) (o := .cells #[.int .i64 a0_0, .string a0_1] 32 (0, 0)) (by (with_reducible repeat (first | refine blk_drewN ?_ _ | refine blk_drew ?_ | refine blk_alloc ?_ _)); exact BK219.out)) : gb219 ≠ gb220)); have n6_ := Aside0.mk ((by rw [hg]; exact Nat.ne_of_gt (blk_lt (g := gb219) (o := .cells #[.int .i64 a0_0, .string a0_1] 32 (0, 0)) (by (with_reducible repeat (first | refine blk_drewN ?_ _ | refine blk_drew ?_ | refine blk_alloc ?_ _)); exact BK219.out)) : gb220 ≠ gb219)); clear BK219; clear HB; have BK219 := n0_; have HB := n1_; have BK220 := n2_; have GW220 := n3_; have GE220 := n4_; have NB219_220 := n5_; have NB220_219 := n6_; clear n0_ n1_ n2_ n3_ n4_ n5_ n6_; clear hb hbox hg; have hnb7 := NB219_220.out; have hnc7 := NB220_219.out; have hcz8_0 : w6.cell? ⟨gb219, 0, none⟩ = some (.int .i64 a0_0) := (blk_cell BK219.out 0).trans rfl; have hcz8_1 : w6.cell? ⟨gb219, 1, none⟩ = some (.string a0_1) := (blk_cell BK219.out 1).trans rfl; have hfz8_0 := blk_frozen BK219.out 0; have hfz8_1 := blk_frozen BK219.out 1) | ((with_reducible refine gate_dst (N := 10) rfl ?_); refine Kd.R_make (Kd.int .u8) _ 5 rfl (N := 10) rfl 55 _ _ rfl (a0_1.size : Int) rfl rfl Try.underlying55 (.int .u8 0) 1 info5 rfl (by decide) (by omega) 0 (ok := fun _ => True) (okp := fun _ => True) rfl (fun _ hk => hk) trivial (of_decide_eq_true (by first | (with_reducible assumption) | assumption)) (Nat.le_trans (Nat.mul_le_mul_right _ (of_decide_eq_true (by first | (with_reducible assumption) | assumption) : (a0_1.size : Int).toNat ≤ 281474976710656)) (by omega)) (Below.refl _ _) (Nat.le_refl _) ?_; intro v222 w9 ho10 hb hg_ hnew_; clear hg_ hnew_; (first | rw [← Ny221.out] at ho10 | (simp only [Int.reduceToNat] at ho10; rw [← Ny221.out] at ho10)); have n0_ := Aside0.mk (Kd.R_lower ho10 (below_size (by repeat (first | (with_reducible first | exact HB.out | apply below_alloc | apply pw_below_drewN | apply below_drew1 | refine below_set ?_ GE219.out | refine below_set ?_ GE220.out) | exact HB.out)))); have n1_ := Aside0.mk (blk_below (g := gb219) (o := .cells #[.int .i64 a0_0, .string a0_1] 32 (0, 0)) (by (with_reducible repeat (first | refine blk_drewN ?_ _ | refine blk_drew ?_ | refine blk_alloc ?_ _)); exact BK219.out) hb); have n2_ := Aside0.mk (blk_below (g := gb220) (o := .cells #[.int .i64 0, .string (⟨#[]⟩ : ByteArray)] 32 (0, 0)) (by (with_reducible repeat (first | refine blk_drewN ?_ _ | refine blk_drew ?_ | refine blk_alloc ?_ _)); exact BK220.out) hb); have n3_ := Aside0.mk (below_step (by repeat (first | (with_reducible first | exact HB.out | apply below_alloc | apply pw_below_drewN | apply below_drew1 | refine below_set ?_ GE219.out | refine below_set ?_ GE220.out) | exact HB.out)) hb); clear BK219; clear BK220; clear HB; have HO223 := n0_; have BK219 := n1_; have BK220 := n2_; have HB := n3_; clear n0_ n1_ n2_ n3_; clear hb ho10; obtain ⟨Ao11, co11, eo11⟩ := Kd.R_slice HO223.out; subst eo11))
      go_loopg [13] k (fun kq v13 w' => ∃ (x5_1 : List Int) (x13_1 : Int), v13 = .int .i64 x13_1 ∧ Aside0 (impl_Table_each.l0 a1 kq x5_1 (y221.length : Int) x13_1 a0_0 a0_1 = some (r1, r2)) ∧ Aside0 (kq ≤ k) ∧ Aside0 (Kd.R (Kd.int .u8) 5 w' w.heap.size (fun _ => True) (.slice Ao11 y221.length co11) x5_1) ∧ Aside0 (w'.heap[gb219]? = some (.cells #[.int .i64 a0_0, .string a0_1] 32 (0, 0))) ∧ Aside0 (w'.heap[gb220]? = some (.cells #[.int .i64 0, .string (⟨#[]⟩ : ByteArray)] 32 (0, 0))) ∧ Aside0 (Below w.heap.size w w'))
      case atStart => exact ⟨(y221), (0), (by first | rfl | (simp; done) | (simp [*]; done)), H', ⟨Nat.le_refl _⟩, ⟨by (with_reducible repeat (first | apply Kd.R_alloc | apply Kd.R_drewN | apply Kd.R_drew)); exact HO223.out⟩, ⟨by (with_reducible repeat (first | refine blk_drewN ?_ _ | refine blk_drew ?_ | refine blk_alloc ?_ _)); exact BK219.out⟩, ⟨by (with_reducible repeat (first | refine blk_drewN ?_ _ | refine blk_drew ?_ | refine blk_alloc ?_ _)); exact BK220.out⟩, ⟨by repeat (first | (with_reducible first | exact HB.out | apply below_alloc | apply pw_below_drewN | apply below_drew1 | refine below_set ?_ GE219.out | refine below_set ?_ GE220.out) | exact HB.out)⟩⟩
      case round =>
        clear H'
        try clear p1
        try clear p2
        try clear c3
        try clear c3b0
        try clear c3b1
        try clear c4
        try clear c4b0
        try clear c4b1
        try clear c5
        try clear c7
        try clear hcz8_0
        try clear hcz8_1
        try clear hfz8_0
        try clear hfz8_1
        obtain ⟨x5_1, x13_1, rfl, HA, HK1, HO_5, BK219, BK220, HB⟩ := hrel
        have hl5_1 := (Kd.R_reads' HO_5.out).1
        rw [hl5_1] at HO_5
        (try simp only [hl5_1])
        (try simp only [hl5_1] at BK219)
        (try simp only [hl5_1] at BK220)
        cases gk with
        | zero => exact absurd HA.out (by simp [impl_Table_each.l0])
        | succ k1 =>
          have H := HA.out
          clear HA
          simp only [impl_Table_each.l0] at H
          by_cases c12 : x13_1 < (y221.length : Int)
          · rw [if_pos c12] at H
            have c12b0 : decide (x13_1 < (y221.length : Int)) = true := decide_eq_true c12
            clear c12
            (try (have c12h0 := c12b0; simp only [hl5_1] at c12h0))
            replace H := Option.bind_eq_some_iff.mp H
            obtain ⟨t224, A130, H⟩ := H
            replace H : ((impl_bit.f t224).bind fun t225 => ((impl_sign.f t225).bind fun t226 => (if 0 ≤ x13_1 then (if x13_1 < (x5_1.length : Int) then (impl_Table_each.l0 a1 k1 (x5_1.set (x13_1 : Int).toNat t226) (y221.length : Int) (wrap64 (x13_1 + 1)) a0_0 a0_1) else (none)) else (none)))) = some (r1, r2) := H
            have A13 := Aside0.mk A130
            clear A130
            replace H := Option.bind_eq_some_iff.mp H
            obtain ⟨t225, A140, H⟩ := H
            replace H : ((impl_sign.f t225).bind fun t226 => (if 0 ≤ x13_1 then (if x13_1 < (x5_1.length : Int) then (impl_Table_each.l0 a1 k1 (x5_1.set (x13_1 : Int).toNat t226) (y221.length : Int) (wrap64 (x13_1 + 1)) a0_0 a0_1) else (none)) else (none))) = some (r1, r2) := H
            have A14 := Aside0.mk A140
            clear A140
            replace H := Option.bind_eq_some_iff.mp H
            obtain ⟨t226, A150, H⟩ := H
            replace H : (if 0 ≤ x13_1 then (if x13_1 < (x5_1.length : Int) then (impl_Table_each.l0 a1 k1 (x5_1.set (x13_1 : Int).toNat t226) (y221.length : Int) (wrap64 (x13_1 + 1)) a0_0 a0_1) else (none)) else (none)) = some (r1, r2) := H
            have A15 := Aside0.mk A150
            clear A150
            by_cases c16 : 0 ≤ x13_1
            · rw [if_pos c16] at H
              have c16b0 : decide (0 ≤ x13_1) = true := decide_eq_true c16
              clear c16
              by_cases c17 : x13_1 < (x5_1.length : Int)
              · rw [if_pos c17] at H
                have c17b0 : decide (x13_1 < (x5_1.length : Int)) = true := decide_eq_true c17
                clear c17
                (try (have c17h0 := c17b0; simp only [hl5_1] at c17h0))
                obtain ⟨y227, hy227⟩ : ∃ y_ : List Int, y_ = (x5_1.set (x13_1 : Int).toNat t226) := ⟨_, rfl⟩
                replace H : (impl_Table_each.l0 a1 k1 y227 (y221.length : Int) (wrap64 (x13_1 + 1)) a0_0 a0_1) = some (r1, r2) := by first | (rw [hy227]; with_reducible exact H) | (have H2_ := (Option.bind_some _ _).symm.trans H; rw [hy227]; with_reducible exact H2_) | (have H2_ := (Option.bind_some _ _).symm.trans H; with_reducible exact H2_) | with_reducible exact H | (rw [hy227]; exact H) | exact H
                have Ny227 := Aside0.mk hy227
                clear hy227
                have H' := Aside0.mk H
                clear H
                go_wp2_with (first | ((with_reducible refine gate_calleeV (q := .tmp 18) rfl ?_); refine goesV_ (some 20) rfl rfl HF1_ (by first | rfl | (go_simp; done)) #[.int .i64 x13_1] rfl (by (try simp only [List.map_toArray, List.map_cons, List.map_nil]); first | done | rfl | (simp only [List.length_drop, List.length_take]; rfl)) ?_; (with_reducible refine (HP1_.out _ (by repeat (first | (with_reducible first | exact HB.out | apply below_alloc | apply pw_below_drewN | apply below_drew1 | refine below_set ?_ GE219.out | refine below_set ?_ GE220.out) | exact HB.out)) x13_1 t224 A13.out).mono ?_); rintro e w19 ⟨rfl, hb⟩; refine ⟨_, rfl, ?_⟩; have n0_ := Aside0.mk (Kd.R_below (by (with_reducible repeat (first | apply Kd.R_alloc | apply Kd.R_drewN | apply Kd.R_drew)); exact HO_5.out) hb); have n1_ := Aside0.mk (blk_below (g := gb219) (o := .cells #[.int .i64 a0_0, .string a0_1] 32 (0, 0)) (by (with_reducible repeat (first | refine blk_drewN ?_ _ | refine blk_drew ?_ | refine blk_alloc ?_ _)); exact BK219.out) hb); have n2_ := Aside0.mk (blk_below (g := gb220) (o := .cells #[.int .i64 0, .string (⟨#[]⟩ : ByteArray)] 32 (0, 0)) (by (with_reducible repeat (first | refine blk_drewN ?_ _ | refine blk_drew ?_ | refine blk_alloc ?_ _)); exact BK220.out) hb); have n3_ := Aside0.mk (below_step (by repeat (first | (with_reducible first | exact HB.out | apply below_alloc | apply pw_below_drewN | apply below_drew1 | refine below_set ?_ GE219.out | refine below_set ?_ GE220.out) | exact HB.out)) hb); clear HO_5; clear BK219; clear BK220; clear HB; have HO_5 := n0_; have BK219 := n1_; have BK220 := n2_; have HB := n3_; clear n0_ n1_ n2_ n3_; (try clear hb); (try clear hb2); (try clear hk); (try clear hi)) | ((with_reducible refine gate_callee (f := 72) rfl ?_); refine goesL_ (some 21) rfl rfl Try.func72 (by kernel_rfl) rfl #[.bool t224] rfl (by (try simp only [List.map_toArray, List.map_cons, List.map_nil]); first | done | rfl | (simp only [List.length_drop, List.length_take]; rfl)) ?_; (with_reducible refine (impl_bit.calls t224 t225 _ A14.out).mono ?_); rintro e w' ⟨rfl, ⟨nd, rfl⟩⟩; refine ⟨_, rfl, ?_⟩; (try (rw [drewN_self w19]; generalize hq_ : World.drewN w19 _ = w19; have n0_ : Aside0 (Kd.R (Kd.int .u8) 5 w19 w.heap.size (fun _ => True) (.slice Ao11 x5_1.length co11) x5_1) := ⟨by rw [← hq_]; exact (by (with_reducible repeat (first | apply Kd.R_alloc | apply Kd.R_drewN | apply Kd.R_drew)); exact HO_5.out)⟩; have n1_ : Aside0 (w19.heap[gb219]? = some (.cells #[.int .i64 a0_0, .string a0_1] 32 (0, 0))) := ⟨by rw [← hq_]; exact (by (with_reducible repeat (first | refine blk_drewN ?_ _ | refine blk_drew ?_ | refine blk_alloc ?_ _)); exact BK219.out)⟩; have n2_ : Aside0 (w19.heap[gb220]? = some (.cells #[.int .i64 0, .string (⟨#[]⟩ : ByteArray)] 32 (0, 0))) := ⟨by rw [← hq_]; exact (by (with_reducible repeat (first | refine blk_drewN ?_ _ | refine blk_drew ?_ | refine blk_alloc ?_ _)); exact BK220.out)⟩; have n3_ : Aside0 (Below w.heap.size w w19) := ⟨by rw [← hq_]; exact (by repeat (first | (with_reducible first | exact HB.out | apply below_alloc | apply pw_below_drewN | apply below_drew1 | refine below_set ?_ GE219.out | refine below_set ?_ GE220.out) | exact HB.out))⟩; clear HO_5 BK219 BK220 HB hq_; have HO_5 := n0_; have BK219 := n1_; have BK220 := n2_; have HB := n3_; clear n0_ n1_ n2_ n3_))) | ((with_reducible refine gate_callee (f := 71) rfl ?_); refine goesL_ (some 22) rfl rfl Try.func71 (by kernel_rfl) rfl #[.int .i64 t225] rfl (by (try simp only [List.map_toArray, List.map_cons, List.map_nil]); first | done | rfl | (simp only [List.length_drop, List.length_take]; rfl)) ?_; (with_reducible refine (impl_sign.calls t225 t226 _ A15.out).mono ?_); rintro e w' ⟨rfl, ⟨nd, rfl⟩⟩; refine ⟨_, rfl, ?_⟩; (try (rw [drewN_self w19]; generalize hq_ : World.drewN w19 _ = w19; have n0_ : Aside0 (Kd.R (Kd.int .u8) 5 w19 w.heap.size (fun _ => True) (.slice Ao11 x5_1.length co11) x5_1) := ⟨by rw [← hq_]; exact (by (with_reducible repeat (first | apply Kd.R_alloc | apply Kd.R_drewN | apply Kd.R_drew)); exact HO_5.out)⟩; have n1_ : Aside0 (w19.heap[gb219]? = some (.cells #[.int .i64 a0_0, .string a0_1] 32 (0, 0))) := ⟨by rw [← hq_]; exact (by (with_reducible repeat (first | refine blk_drewN ?_ _ | refine blk_drew ?_ | refine blk_alloc ?_ _)); exact BK219.out)⟩; have n2_ : Aside0 (w19.heap[gb220]? = some (.cells #[.int .i64 0, .string (⟨#[]⟩ : ByteArray)] 32 (0, 0))) := ⟨by rw [← hq_]; exact (by (with_reducible repeat (first | refine blk_drewN ?_ _ | refine blk_drew ?_ | refine blk_alloc ?_ _)); exact BK220.out)⟩; have n3_ : Aside0 (Below w.heap.size w w19) := ⟨by rw [← hq_]; exact (by repeat (first | (with_reducible first | exact HB.out | apply below_alloc | apply pw_below_drewN | apply below_drew1 | refine below_set ?_ GE219.out | refine below_set ?_ GE220.out) | exact HB.out))⟩; clear HO_5 BK219 BK220 HB hq_; have HO_5 := n0_; have BK219 := n1_; have BK220 := n2_; have HB := n3_; clear n0_ n1_ n2_ n3_)); have p18 : 0 ≤ (x13_1 : Int) := of_decide_eq_true (by first | (with_reducible assumption) | assumption); have q18 : (x13_1 : Int) < ((x5_1.length : Int) : Int) := of_decide_eq_true (by first | (with_reducible assumption) | assumption); obtain ⟨go18, co18, eo18, gb18, gl18, cl18, HG18⟩ := Kd.R_form HO_5.out (by omega); (first | cases eo18 | (injection eo18 with ea_ en_ ec_; (first | subst ea_ | (injection ea_ with ea_; subst ea_)); subst ec_; clear en_)); have GB18 := Aside0.mk gb18; have GG18 := Aside0.mk HG18; clear gb18 gl18 HG18; obtain ⟨hx18_0, hf18_0⟩ := Kd.R_celln 0 HO_5.out (x13_1 : Int) p18 q18; replace p18 := eq_true p18; replace q18 := eq_true q18; obtain ⟨hy20_, hz20_⟩ := Kd.R_celln 0 HO_5.out (x13_1 : Int) (of_decide_eq_true (by first | (with_reducible assumption) | assumption)) (of_decide_eq_true (by first | (with_reducible assumption) | assumption)); have HP20 := Kd.R_putg HO_5.out (x13_1 : Int) t226) | ((with_reducible refine gate_store (t := 5) (p := 23) rfl ?_); refine store_event (t := 5) (p := 23) (v := ?vo_w21) (w1 := (w19.setCell ⟨go18, (x13_1 : Int).toNat, none⟩ (.int .u8 t226))) ?hg ?ho ?hn ?hr ?_; (case ho => rfl); (case hg => rfl); (case hn => rfl); (case hr => first | (go_simp; done) | (go_simp; rfl)); intro w21 hw; have hg : w19.grownBy w21 (some go18) := (by rw [hw]; exact HP20.2); have hp_ : Kd.R (Kd.int .u8) 5 w21 w.heap.size (fun _ => True) (.slice (some ⟨go18, 0, none⟩) x5_1.length co11) y227 := (by rw [hw, Ny227.out]; exact HP20.1); clear HP20; have n0_ := Aside0.mk (hp_); have n1_ := Aside0.mk (blk_grown (g := gb219) (o := .cells #[.int .i64 a0_0, .string a0_1] 32 (0, 0)) (by (with_reducible repeat (first | refine blk_drewN ?_ _ | refine blk_drew ?_ | refine blk_alloc ?_ _)); exact BK219.out) hg (Kd.R_ne HO_5.out BK219.out (by decide))); have n2_ := Aside0.mk (blk_grown (g := gb220) (o := .cells #[.int .i64 0, .string (⟨#[]⟩ : ByteArray)] 32 (0, 0)) (by (with_reducible repeat (first | refine blk_drewN ?_ _ | refine blk_drew ?_ | refine blk_alloc ?_ _)); exact BK220.out) hg (Kd.R_ne HO_5.out BK220.out (by decide))); have n3_ := Aside0.mk ((by rw [hw]; exact below_set (HB.out) GB18.out : Below w.heap.size w w21)); clear HO_5; clear BK219; clear BK220; clear HB; have HO_5 := n0_; have BK219 := n1_; have BK220 := n2_; have HB := n3_; clear n0_ n1_ n2_ n3_; clear hg hw hp_))
                (try simp only [← hl5_1])
                go_roundg k1
                case measure => have := HK1.out; omega
                case rel => exact ⟨(y227), (wrap64 (x13_1 + 1)), (by first | rfl | (simp; done) | (simp [*]; done)), H', ⟨by have := HK1.out; omega⟩, ⟨by (try simp only [hl5_1]); (with_reducible repeat (first | apply Kd.R_alloc | apply Kd.R_drewN | apply Kd.R_drew)); exact HO_5.out⟩, ⟨by (try simp only [hl5_1]); (with_reducible repeat (first | refine blk_drewN ?_ _ | refine blk_drew ?_ | refine blk_alloc ?_ _)); exact BK219.out⟩, ⟨by (try simp only [hl5_1]); (with_reducible repeat (first | refine blk_drewN ?_ _ | refine blk_drew ?_ | refine blk_alloc ?_ _)); exact BK220.out⟩, ⟨by repeat (first | (with_reducible first | exact HB.out | apply below_alloc | apply pw_below_drewN | apply below_drew1 | refine below_set ?_ GE219.out | refine below_set ?_ GE220.out) | exact HB.out)⟩⟩
              · rw [if_neg c17] at H
                (try (have c17h0 := c17b0; simp only [hl5_1] at c17h0))
                exact absurd H (by simp)
            · rw [if_neg c16] at H
              exact absurd H (by simp)
          · rw [if_neg c12] at H
            have c12b0 : decide (x13_1 < (y221.length : Int)) = false := decide_eq_false c12
            clear c12
            (try (have c12h0 := c12b0; simp only [hl5_1] at c12h0))
            simp only [Option.some.injEq, Prod.mk.injEq] at H
            obtain ⟨rfl, rfl⟩ := H
            have hnb22 := NB219_220.out
            have hnc22 := NB220_219.out
            have hcz23_0 : wr.cell? ⟨gb219, 0, none⟩ = some (.int .i64 a0_0) := (blk_cell BK219.out 0).trans rfl
            have hcz23_1 : wr.cell? ⟨gb219, 1, none⟩ = some (.string a0_1) := (blk_cell BK219.out 1).trans rfl
            have hfz23_0 := blk_frozen BK219.out 0
            have hfz23_1 := blk_frozen BK219.out 1
            have hcv24 := own_string (P := Try.prog) Try.underlying55 Try.underlying5 Try.underlying9 (Kd.own_of_R HO_5.out)
            have hcz25_0 : wr.cell? ⟨gb220, 0, none⟩ = some (.int .i64 0) := (blk_cell BK220.out 0).trans rfl
            have hcz25_1 : wr.cell? ⟨gb220, 1, none⟩ = some (.string (⟨#[]⟩ : ByteArray)) := (blk_cell BK220.out 1).trans rfl
            have hfz25_0 := blk_frozen BK220.out 0
            have hfz25_1 := blk_frozen BK220.out 1
            go_wp2
            refine bodyPost_ret (results_cell_row rfl _ _ gb220 32 #[.int .i64 a0_0, .string (strOfNums x5_1)] (0, 0) _ rfl (by (with_reducible repeat (first | refine blk_drewN ?_ _ | refine blk_drew ?_ | refine blk_alloc ?_ _)); refine blk_put (cs := #[.int .i64 a0_0, .string (⟨#[]⟩ : ByteArray)]) ?_ 1 _ rfl; (with_reducible repeat (first | refine blk_drewN ?_ _ | refine blk_drew ?_ | refine blk_alloc ?_ _)); refine blk_put (cs := #[.int .i64 0, .string (⟨#[]⟩ : ByteArray)]) ?_ 0 _ rfl; (with_reducible repeat (first | refine blk_drewN ?_ _ | refine blk_drew ?_ | refine blk_alloc ?_ _)); exact BK220.out) Try.underlying32 rfl (by kernel_rfl)) rfl ?_
            exact ⟨by first | rfl | (simp [errW_none, errW_some] <;> rfl) | (simp [*, errW_none, errW_some] <;> rfl), by repeat (first | (with_reducible first | exact HB.out | apply below_alloc | apply pw_below_drewN | apply below_drew1 | refine below_set ?_ GE219.out | refine below_set ?_ GE220.out) | exact HB.out)⟩
    · rw [if_neg c4] at H
      exact absurd H (by simp)
  · rw [if_neg c3] at H
    exact absurd H (by simp)

end Go.Proofs.Ytfincfnklcllnaa.G
-- written by a program of this session (wip/gen/gen.py); Lean checks it
namespace Go.Proofs.Ytfincfnklcllnaa.G
open Go.RowKit Go.Proofs.YtfincfnklcllnaaW.PrintWords Go.Proofs.YtfincfnklcllnaaW.PrintLast Go.Proofs.YtfincfnklcllnaaW.PrintMore
attribute [local go_sem] max2_int min2_int max_two min_two max_three min_three max_four min_four   -- for this text's walks alone
set_option linter.unusedVariables false
set_option linter.unusedSimpArgs false

/-! ### impl_within: function 66 -/
def impl_within.f (a0 : Int) (a1 : Int) (a2 : Int) : Option (Bool) := if a0 ≥ a1 then (some (decide (a0 ≤ a2))) else (some false)
set_option maxHeartbeats 8000000 in
set_option maxRecDepth 100000 in
theorem impl_within.calls (a0 : Int) (a1 : Int) (a2 : Int) (r : Bool) (w : World) (h : impl_within.f a0 a1 a2 = some r) :
    Calls Try.prog 66 #[.int .i64 a0, .int .i64 a1, .int .i64 a2] w fun e w' => e = .returned (.bool r) ∧ Drawn0 w w' := by
  have H : (if a0 ≥ a1 then (some (decide (a0 ≤ a2))) else (some false)) = some r := h
  clear h
  by_cases c4 : a0 ≥ a1
  · rw [if_pos c4] at H
    have c4b0 : decide (a1 ≤ a0) = true := decide_eq_true c4
    clear c4
    obtain rfl := Option.some.inj H
    go_enter Try.func66, Try.ntmps66
    go_wp2
    go_ret
    exact ⟨by first | rfl | (simp; done) | (simp [*]; done), by repeat (first | exact Drawn0.refl _ | apply Drawn0.step)⟩
  · rw [if_neg c4] at H
    have c4b0 : decide (a1 ≤ a0) = false := decide_eq_false c4
    clear c4
    obtain rfl := Option.some.inj H
    go_enter Try.func66, Try.ntmps66
    go_wp2
    go_ret
    exact ⟨by first | rfl | (simp; done) | (simp [*]; done), by repeat (first | exact Drawn0.refl _ | apply Drawn0.step)⟩

end Go.Proofs.Ytfincfnklcllnaa.G
-- written by a program of this session (wip/gen/gen.py); Lean checks it
namespace Go.Proofs.Ytfincfnklcllnaa.G
open Go.RowKit Go.Proofs.YtfincfnklcllnaaW.PrintWords Go.Proofs.YtfincfnklcllnaaW.PrintLast Go.Proofs.YtfincfnklcllnaaW.PrintMore
attribute [local go_sem] max2_int min2_int max_two min_two max_three min_three max_four min_four   -- for this text's walks alone
set_option linter.unusedVariables false
set_option linter.unusedSimpArgs false

/-! ### impl_TableOk: function 52 -/
mutual
def impl_TableOk.j0 : Nat → Bool → Int → ByteArray → Option (Bool)
  | 0, _, _, _ => none
  | k + 1, x17, x218000, x218001 => if x17 = true then (some false) else (impl_TableOk.l0 k (x218001.size : Int) 0 x218000 x218001)
def impl_TableOk.l0 : Nat → Int → Int → Int → ByteArray → Option (Bool)
  | 0, _, _, _, _ => none
  | k + 1, x20, x21, x218000, x218001 => if x21 < x20 then (if 0 ≤ x21 then (if x21 < (x218001.size : Int) then (if (bt x218001 x21) = 48 then (impl_TableOk.l0 k x20 (wrap64 (x21 + 1)) x218000 x218001) else (if (bt x218001 x21) = 49 then (impl_TableOk.l0 k x20 (wrap64 (x21 + 1)) x218000 x218001) else (some false))) else (none)) else (none)) else (some true)
end
def impl_TableOk.f (k : Nat) (a0_0 : Int) (a0_1 : ByteArray) : Option (Bool) := (impl_within.f a0_0 0 12).bind fun t218 => (if t218 = true then (if 0 ≤ (IntKind.u64.wrap (a0_0)) then (impl_TableOk.j0 k ((a0_1.size : Int) != (shl .i64 1 (IntKind.u64.wrap (a0_0)))) a0_0 a0_1) else (none)) else (impl_TableOk.j0 k true a0_0 a0_1))
set_option maxHeartbeats 8000000 in
set_option maxRecDepth 100000 in
theorem impl_TableOk.calls (k : Nat) (a0_0 : Int) (a0_1 : ByteArray) (r : Bool) (w : World) (h : impl_TableOk.f k a0_0 a0_1 = some r) :
    Calls Try.prog 52 #[.agg #[.int .i64 a0_0, .string a0_1]] w fun e w' => e = .returned (.bool r) ∧ Below w.heap.size w w' := by
  have hu32 := Try.underlying32
  have HB := Aside0.mk (Below.refl w.heap.size w)
  have H : ((impl_within.f a0_0 0 12).bind fun t218 => (if t218 = true then (if 0 ≤ (IntKind.u64.wrap (a0_0)) then (impl_TableOk.j0 k ((a0_1.size : Int) != (shl .i64 1 (IntKind.u64.wrap (a0_0)))) a0_0 a0_1) else (none)) else (impl_TableOk.j0 k true a0_0 a0_1))) = some r := h
  clear h
  have HC2 := Aside0.mk H
  clear H
  go_enter Try.func52, Try.ntmps52
  go_upto_region 1 with (first | ((with_reducible refine gate_dst (N := 1) rfl ?_); (try (refine gate_guard (by rfl) ?_; dsimp only)); refine box_event ?hg (N := 1) ?hd (cs := #[.int .i64 a0_0, .string a0_1]) (t := 32) ?hr ?_; (case hd => rfl); (case hg => rfl); (case hr => first | (go_simp; done) | (go_simp; rfl)); intro gb217 hg w3 hbox hb; have n0_ := Aside0.mk (below_step (by repeat (first | (with_reducible first | exact HB.out | apply below_alloc | apply pw_below_drewN | apply below_drew1) | exact HB.out)) hb); have n1_ := Aside0.mk (hbox); have n2_ := Aside0.mk ((by rw [hg]; exact (below_size (by repeat (first | (with_reducible first | exact HB.out | apply below_alloc | apply pw_below_drewN | apply below_drew1) | exact HB.out))) : w.heap.size ≤ gb217)); have n3_ := Aside0.mk ((by rw [hg]; exact (below_size (by repeat (first | (with_reducible first | exact HB.out | apply below_alloc | apply pw_below_drewN | apply below_drew1) | exact HB.out))) : w.heap.size ≤ gb217)); clear HB; have HB := n0_; have BK217 := n1_; have GW217 := n2_; have GE217 := n3_; clear n0_ n1_ n2_ n3_; clear hb hbox hg))
  (try simp only [Act.put, List.setIfInBounds_toArray, List.set_cons_zero, List.set_cons_succ])
  go_cut [17] (fun v17 wc => ∃ (kq : Nat) (x17_1 : Bool), v17 = .bool x17_1 ∧ Aside0 (impl_TableOk.j0 kq x17_1 a0_0 a0_1 = some r) ∧ Aside0 (kq ≤ k) ∧ Aside0 (wc.heap[gb217]? = some (.cells #[.int .i64 a0_0, .string a0_1] 32 (0, 0))) ∧ Aside0 (Below w.heap.size w wc))
  case first =>
    have H := HC2.out
    clear HC2
    replace H := Option.bind_eq_some_iff.mp H
    obtain ⟨t218, A40, H⟩ := H
    replace H : (if t218 = true then (if 0 ≤ (IntKind.u64.wrap (a0_0)) then (impl_TableOk.j0 k ((a0_1.size : Int) != (shl .i64 1 (IntKind.u64.wrap (a0_0)))) a0_0 a0_1) else (none)) else (impl_TableOk.j0 k true a0_0 a0_1)) = some r := H
    have A4 := Aside0.mk A40
    clear A40
    by_cases c5 : t218 = true
    · subst c5
      have H1 : (if 0 ≤ (IntKind.u64.wrap (a0_0)) then (impl_TableOk.j0 k ((a0_1.size : Int) != (shl .i64 1 (IntKind.u64.wrap (a0_0)))) a0_0 a0_1) else (none)) = some r := by rw [if_pos rfl] at H; exact H
      clear H
      have H := H1
      clear H1
      obtain ⟨ji6, hji6⟩ : ∃ j_ : Int, (IntKind.u64.wrap (a0_0)) = j_ := ⟨_, rfl⟩
      replace H : (if 0 ≤ (ji6) then (impl_TableOk.j0 k ((a0_1.size : Int) != (shl .i64 1 (ji6))) a0_0 a0_1) else (none)) = some r := by first | (rw [hji6] at H; exact H) | (simp only [hji6] at H ⊢; exact H)
      (try rw [hji6] at A4)
      by_cases c7 : 0 ≤ (ji6)
      · rw [if_pos c7] at H
        have c7b0 := eq_true c7
        have c7b1 : decide (0 ≤ (ji6)) = true := decide_eq_true c7
        clear c7
        obtain ⟨ji8, hji8⟩ : ∃ j_ : Int, (shl .i64 1 (ji6)) = j_ := ⟨_, rfl⟩
        replace H : (impl_TableOk.j0 k ((a0_1.size : Int) != (ji8)) a0_0 a0_1) = some r := by first | (rw [hji8] at H; exact H) | (simp only [hji8] at H ⊢; exact H)
        (try rw [hji8] at A4)
        have hji8_ : (IntKind.i64.wrap (1 * 2 ^ min (ji6).toNat 64)) = ji8 := hji8
        have hji8z : (ji6) ≤ 64 → (IntKind.i64.wrap (1 * 2 ^ (ji6).toNat)) = ji8 := shl_small hji8
        have hji8u : (IntKind.i64.wrap (2 ^ min (ji6).toNat 64)) = ji8 := by have h_ := hji8_; rw [Int.one_mul] at h_; exact h_
        have hji8v : (ji6) ≤ 64 → (IntKind.i64.wrap (2 ^ (ji6).toNat)) = ji8 := fun hle_ => by have h_ := hji8z hle_; rw [Int.one_mul] at h_; exact h_
        have hji8y : (wrap64 (1 * 2 ^ min (ji6).toNat 64)) = ji8 := (i64_w _).symm.trans hji8_
        have hji8x : (ji6) ≤ 64 → (wrap64 (1 * 2 ^ (ji6).toNat)) = ji8 := fun h_ => (i64_w _).symm.trans (hji8z h_)
        have H' := Aside0.mk H
        clear H
        have hcz9_0 : w3.cell? ⟨gb217, 0, none⟩ = some (.int .i64 a0_0) := (blk_cell BK217.out 0).trans rfl
        have hcz9_1 : w3.cell? ⟨gb217, 1, none⟩ = some (.string a0_1) := (blk_cell BK217.out 1).trans rfl
        have hfz9_0 := blk_frozen BK217.out 0
        have hfz9_1 := blk_frozen BK217.out 1
        go_wp2_with (first | ((with_reducible refine gate_callee (f := 66) rfl ?_); refine goesL_ (some 6) rfl rfl Try.func66 (by kernel_rfl) rfl #[.int .i64 a0_0, .int .i64 0, .int .i64 12] rfl (by (try simp only [List.map_toArray, List.map_cons, List.map_nil]); first | done | rfl | (simp only [List.length_drop, List.length_take]; rfl)) ?_; (with_reducible refine (impl_within.calls a0_0 0 12 true _ A4.out).mono ?_); rintro e w' ⟨rfl, ⟨nd, rfl⟩⟩; refine ⟨_, rfl, ?_⟩))
        go_meet
        case rel => exact ⟨_, (((a0_1.size : Int) != (ji8))), (by first | rfl | (simp; done) | (simp only [← hji8] <;> (first | rfl | simp)) | (simp [*]; done)), H', ⟨by first | omega | exact Nat.le_refl _⟩, ⟨by (with_reducible repeat (first | refine blk_drewN ?_ _ | refine blk_drew ?_ | refine blk_alloc ?_ _)); exact BK217.out⟩, ⟨by repeat (first | (with_reducible first | exact HB.out | apply below_alloc | apply pw_below_drewN | apply below_drew1 | refine below_set ?_ GE217.out) | exact HB.out)⟩⟩
      · rw [if_neg c7] at H
        exact absurd H (by simp)
    · replace c5 := Bool.eq_false_iff.mpr c5
      subst c5
      have H1 : (impl_TableOk.j0 k true a0_0 a0_1) = some r := by rw [if_neg (show ¬ (false = true) by decide)] at H; exact H
      clear H
      have H := H1
      clear H1
      have H' := Aside0.mk H
      clear H
      have hcz10_0 : w3.cell? ⟨gb217, 0, none⟩ = some (.int .i64 a0_0) := (blk_cell BK217.out 0).trans rfl
      have hcz10_1 : w3.cell? ⟨gb217, 1, none⟩ = some (.string a0_1) := (blk_cell BK217.out 1).trans rfl
      have hfz10_0 := blk_frozen BK217.out 0
      have hfz10_1 := blk_frozen BK217.out 1
      go_wp2_with (first | ((with_reducible refine gate_callee (f := 66) rfl ?_); refine goesL_ (some 6) rfl rfl Try.func66 (by kernel_rfl) rfl #[.int .i64 a0_0, .int .i64 0, .int .i64 12] rfl (by (try simp only [List.map_toArray, List.map_cons, List.map_nil]); first | done | rfl | (simp only [List.length_drop, List.length_take]; rfl)) ?_; (with_reducible refine (impl_within.calls a0_0 0 12 false _ A4.out).mono ?_); rintro e w' ⟨rfl, ⟨nd, rfl⟩⟩; refine ⟨_, rfl, ?_⟩))
      go_meet
      case rel => exact ⟨_, (true), (by first | rfl | (simp; done) | (simp [*]; done)), H', ⟨by first | omega | exact Nat.le_refl _⟩, ⟨by (with_reducible repeat (first | refine blk_drewN ?_ _ | refine blk_drew ?_ | refine blk_alloc ?_ _)); exact BK217.out⟩, ⟨by repeat (first | (with_reducible first | exact HB.out | apply below_alloc | apply pw_below_drewN | apply below_drew1 | refine below_set ?_ GE217.out) | exact HB.out)⟩⟩
  case rest =>
    clear HC2
    try clear p2
    try clear c5
    try clear c6
    try clear p6
    try clear c7
    try clear c7b0
    try clear c7b1
    try clear hcz10_0
    try clear hcz10_1
    try clear hcz9_0
    try clear hcz9_1
    try clear hfz10_0
    try clear hfz10_1
    try clear hfz9_0
    try clear hfz9_1
    obtain ⟨kq, x17_1, rfl, HA, HJ1, BK217, HB⟩ := hcut
    cases kq with
    | zero => exact absurd HA.out (by simp [impl_TableOk.j0])
    | succ kj1 =>
      have H := HA.out
      clear HA
      simp only [impl_TableOk.j0] at H
      by_cases c11 : x17_1 = true
      · subst c11
        have H1 : (some false) = some r := by rw [if_pos rfl] at H; exact H
        clear H
        have H := H1
        clear H1
        obtain rfl := Option.some.inj H
        go_wp2
        go_ret
        exact ⟨by first | rfl | (simp [errW_none, errW_some] <;> rfl) | (simp [*, errW_none, errW_some] <;> rfl), by repeat (first | (with_reducible first | exact HB.out | apply below_alloc | apply pw_below_drewN | apply below_drew1 | refine below_set ?_ GE217.out) | exact HB.out)⟩
      · replace c11 := Bool.eq_false_iff.mpr c11
        subst c11
        have H1 : (impl_TableOk.l0 kj1 (a0_1.size : Int) 0 a0_0 a0_1) = some r := by rw [if_neg (show ¬ (false = true) by decide)] at H; exact H
        clear H
        have H := H1
        clear H1
        have H' := Aside0.mk H
        clear H
        have hcz12_0 : wc.cell? ⟨gb217, 0, none⟩ = some (.int .i64 a0_0) := (blk_cell BK217.out 0).trans rfl
        have hcz12_1 : wc.cell? ⟨gb217, 1, none⟩ = some (.string a0_1) := (blk_cell BK217.out 1).trans rfl
        have hfz12_0 := blk_frozen BK217.out 0
        have hfz12_1 := blk_frozen BK217.out 1
        go_wp2
        go_loopg [21] kj1 (fun kq v21 w' => ∃ (x21_2 : Int), v21 = .int .i64 x21_2 ∧ Aside0 (impl_TableOk.l0 kq (a0_1.size : Int) x21_2 a0_0 a0_1 = some r) ∧ Aside0 (kq ≤ kj1) ∧ Aside0 (w'.heap[gb217]? = some (.cells #[.int .i64 a0_0, .string a0_1] 32 (0, 0))) ∧ Aside0 (Below w.heap.size w w'))
        case atStart => exact ⟨(0), (by first | rfl | (simp; done) | (simp [*]; done)), H', ⟨Nat.le_refl _⟩, ⟨by (with_reducible repeat (first | refine blk_drewN ?_ _ | refine blk_drew ?_ | refine blk_alloc ?_ _)); exact BK217.out⟩, ⟨by repeat (first | (with_reducible first | exact HB.out | apply below_alloc | apply pw_below_drewN | apply below_drew1 | refine below_set ?_ GE217.out) | exact HB.out)⟩⟩
        case round =>
          clear H'
          try clear c1
          try clear p2
          try clear c5
          try clear c6
          try clear p6
          try clear c7
          try clear c7b0
          try clear c7b1
          try clear c11
          try clear hcz10_0
          try clear hcz10_1
          try clear hcz12_0
          try clear hcz12_1
          try clear hcz9_0
          try clear hcz9_1
          try clear hfz10_0
          try clear hfz10_1
          try clear hfz12_0
          try clear hfz12_1
          try clear hfz9_0
          try clear hfz9_1
          try clear p2
          try clear p6
          obtain ⟨x21_2, rfl, HA, HK2, BK217, HB⟩ := hrel
          cases gk with
          | zero => exact absurd HA.out (by simp [impl_TableOk.l0])
          | succ k2 =>
            have H := HA.out
            clear HA
            simp only [impl_TableOk.l0] at H
            by_cases c13 : x21_2 < (a0_1.size : Int)
            · rw [if_pos c13] at H
              have c13b0 : decide (x21_2 < (a0_1.size : Int)) = true := decide_eq_true c13
              clear c13
              by_cases c14 : 0 ≤ x21_2
              · rw [if_pos c14] at H
                have c14b0 : decide (0 ≤ x21_2) = true := decide_eq_true c14
                clear c14
                by_cases c15 : x21_2 < (a0_1.size : Int)
                · rw [if_pos c15] at H
                  have c15b0 : decide (x21_2 < (a0_1.size : Int)) = true := decide_eq_true c15
                  clear c15
                  by_cases c17 : (bt a0_1 x21_2) = 48
                  · rw [if_pos c17] at H
                    have c17b0 : ((bt a0_1 x21_2) == 48) = true := beq_iff_eq.mpr c17
                    have c17b1 : ((bt a0_1 x21_2) != 48) = false := bne_eq_false_iff_eq.mpr c17
                    clear c17
                    have H' := Aside0.mk H
                    clear H
                    have hcz18_0 : wr.cell? ⟨gb217, 0, none⟩ = some (.int .i64 a0_0) := (blk_cell BK217.out 0).trans rfl
                    have hcz18_1 : wr.cell? ⟨gb217, 1, none⟩ = some (.string a0_1) := (blk_cell BK217.out 1).trans rfl
                    have hfz18_0 := blk_frozen BK217.out 0
                    have hfz18_1 := blk_frozen BK217.out 1
                    have p16 : 0 ≤ (x21_2 : Int) := of_decide_eq_true (by first | (with_reducible assumption) | assumption)
                    have q16 : x21_2 < (a0_1.size : Int) := of_decide_eq_true (by first | (with_reducible assumption) | assumption)
                    have hx16 := bt_at a0_1 x21_2
                    replace p16 := eq_true p16
                    replace q16 := eq_true q16
                    go_wp2
                    go_roundg k2
                    case measure => have := HJ1.out; have := HK2.out; omega
                    case rel => exact ⟨(wrap64 (x21_2 + 1)), (by first | rfl | (simp; done) | (simp [*]; done)), H', ⟨by have := HJ1.out; have := HK2.out; omega⟩, ⟨by (with_reducible repeat (first | refine blk_drewN ?_ _ | refine blk_drew ?_ | refine blk_alloc ?_ _)); exact BK217.out⟩, ⟨by repeat (first | (with_reducible first | exact HB.out | apply below_alloc | apply pw_below_drewN | apply below_drew1 | refine below_set ?_ GE217.out) | exact HB.out)⟩⟩
                  · rw [if_neg c17] at H
                    have c17b0 : ((bt a0_1 x21_2) == 48) = false := beq_eq_false_iff_ne.mpr c17
                    have c17b1 : ((bt a0_1 x21_2) != 48) = true := bne_iff_ne.mpr c17
                    by_cases c20 : (bt a0_1 x21_2) = 49
                    · rw [if_pos c20] at H
                      have c20b0 : ((bt a0_1 x21_2) == 49) = true := beq_iff_eq.mpr c20
                      have c20b1 : ((bt a0_1 x21_2) != 49) = false := bne_eq_false_iff_eq.mpr c20
                      clear c20
                      have H' := Aside0.mk H
                      clear H
                      have hcz21_0 : wr.cell? ⟨gb217, 0, none⟩ = some (.int .i64 a0_0) := (blk_cell BK217.out 0).trans rfl
                      have hcz21_1 : wr.cell? ⟨gb217, 1, none⟩ = some (.string a0_1) := (blk_cell BK217.out 1).trans rfl
                      have hfz21_0 := blk_frozen BK217.out 0
                      have hfz21_1 := blk_frozen BK217.out 1
                      have p16 : 0 ≤ (x21_2 : Int) := of_decide_eq_true (by first | (with_reducible assumption) | assumption)
                      have q16 : x21_2 < (a0_1.size : Int) := of_decide_eq_true (by first | (with_reducible assumption) | assumption)
                      have hx16 := bt_at a0_1 x21_2
                      replace p16 := eq_true p16
                      replace q16 := eq_true q16
                      have p19 : 0 ≤ (x21_2 : Int) := of_decide_eq_true (by first | (with_reducible assumption) | assumption)
                      have q19 : x21_2 < (a0_1.size : Int) := of_decide_eq_true (by first | (with_reducible assumption) | assumption)
                      have hx19 := bt_at a0_1 x21_2
                      replace p19 := eq_true p19
                      replace q19 := eq_true q19
                      go_wp2
                      go_roundg k2
                      case measure => have := HJ1.out; have := HK2.out; omega
                      case rel => exact ⟨(wrap64 (x21_2 + 1)), (by first | rfl | (simp; done) | (simp [*]; done)), H', ⟨by have := HJ1.out; have := HK2.out; omega⟩, ⟨by (with_reducible repeat (first | refine blk_drewN ?_ _ | refine blk_drew ?_ | refine blk_alloc ?_ _)); exact BK217.out⟩, ⟨by repeat (first | (with_reducible first | exact HB.out | apply below_alloc | apply pw_below_drewN | apply below_drew1 | refine below_set ?_ GE217.out) | exact HB.out)⟩⟩
                    · rw [if_neg c20] at H
                      have c20b0 : ((bt a0_1 x21_2) == 49) = false := beq_eq_false_iff_ne.mpr c20
                      have c20b1 : ((bt a0_1 x21_2) != 49) = true := bne_iff_ne.mpr c20
                      obtain rfl := Option.some.inj H
                      have hcz22_0 : wr.cell? ⟨gb217, 0, none⟩ = some (.int .i64 a0_0) := (blk_cell BK217.out 0).trans rfl
                      have hcz22_1 : wr.cell? ⟨gb217, 1, none⟩ = some (.string a0_1) := (blk_cell BK217.out 1).trans rfl
                      have hfz22_0 := blk_frozen BK217.out 0
                      have hfz22_1 := blk_frozen BK217.out 1
                      have p16 : 0 ≤ (x21_2 : Int) := of_decide_eq_true (by first | (with_reducible assumption) | assumption)
                      have q16 : x21_2 < (a0_1.size : Int) := of_decide_eq_true (by first | (with_reducible assumption) | assumption)
                      have hx16 := bt_at a0_1 x21_2
                      replace p16 := eq_true p16
                      replace q16 := eq_true q16
                      have p19 : 0 ≤ (x21_2 : Int) := of_decide_eq_true (by first | (with_reducible assumption) | assumption)
                      have q19 : x21_2 < (a0_1.size : Int) := of_decide_eq_true (by first | (with_reducible assumption) | assumption)
                      have hx19 := bt_at a0_1 x21_2
                      replace p19 := eq_true p19
                      replace q19 := eq_true q19
                      go_wp2
                      go_ret
                      exact ⟨by first | rfl | (simp [errW_none, errW_some] <;> rfl) | (simp [*, errW_none, errW_some] <;> rfl), by repeat (first | (with_reducible first | exact HB.out | apply below_alloc | apply pw_below_drewN | apply below_drew1 | refine below_set ?_ GE217.out) | exact HB.out)⟩
                · rw [if_neg c15] at H
                  exact absurd H (by simp)
              · rw [if_neg c14] at H
                exact absurd H (by simp)
            · rw [if_neg c13] at H
              have c13b0 : decide (x21_2 < (a0_1.size : Int)) = false := decide_eq_false c13
              clear c13
              obtain rfl := Option.some.inj H
              go_wp2
              go_ret
              exact ⟨by first | rfl | (simp [errW_none, errW_some] <;> rfl) | (simp [*, errW_none, errW_some] <;> rfl), by repeat (first | (with_reducible first | exact HB.out | apply below_alloc | apply pw_below_drewN | apply below_drew1 | refine below_set ?_ GE217.out) | exact HB.out)⟩

end Go.Proofs.Ytfincfnklcllnaa.G
-- written by a program of this session (wip/gen/gen.py); Lean checks it
namespace Go.Proofs.Ytfincfnklcllnaa.G
open Go.RowKit Go.Proofs.YtfincfnklcllnaaW.PrintWords Go.Proofs.YtfincfnklcllnaaW.PrintLast Go.Proofs.YtfincfnklcllnaaW.PrintMore
attribute [local go_sem] max2_int min2_int max_two min_two max_three min_three max_four min_four   -- for this text's walks alone
set_option linter.unusedVariables false
set_option linter.unusedSimpArgs false

/-! ### impl_rowed: function 65 -/
def impl_rowed.f (k : Nat) (l0 : List Bool) (a1_0 : Int) (a1_1 : ByteArray) : Option (Bool) := (impl_TableOk.f k a1_0 a1_1).bind fun t455 => (if t455 = true then (some ((l0.length : Int) == a1_0)) else (some false))
set_option maxHeartbeats 8000000 in
set_option maxRecDepth 100000 in
theorem impl_rowed.calls (k : Nat) (A0 : Option Addr) (c0 : Nat) (l0 : List Bool) (a1_0 : Int) (a1_1 : ByteArray) (r : Bool) (w : World) (hr0 : Kd.C Kd.bool w A0 l0.length l0) (hc0 : l0.length ≤ c0) (h : impl_rowed.f k l0 a1_0 a1_1 = some r) :
    Calls Try.prog 65 #[.slice A0 l0.length c0, .agg #[.int .i64 a1_0, .string a1_1]] w fun e w' => e = .returned (.bool r) ∧ Below w.heap.size w w' := by
  have hu32 := Try.underlying32
  have HR0 := Aside0.mk hr0
  have HC0 := Aside0.mk hc0
  clear hr0 hc0
  have HB := Aside0.mk (Below.refl w.heap.size w)
  have H : ((impl_TableOk.f k a1_0 a1_1).bind fun t455 => (if t455 = true then (some ((l0.length : Int) == a1_0)) else (some false))) = some r := h
  clear h
  replace H := Option.bind_eq_some_iff.mp H
  obtain ⟨t455, A30, H⟩ := H
  replace H : (if t455 = true then (some ((l0.length : Int) == a1_0)) else (some false)) = some r := H
  have A3 := Aside0.mk A30
  clear A30
  by_cases c4 : t455 = true
  · subst c4
    have H1 : (some ((l0.length : Int) == a1_0)) = some r := by rw [if_pos rfl] at H; exact H
    clear H
    have H := H1
    clear H1
    obtain rfl := Option.some.inj H
    go_enter Try.func65, Try.ntmps65
    go_wp2_with (first | ((with_reducible refine gate_dst (N := 3) rfl ?_); (try (refine gate_guard (by rfl) ?_; dsimp only)); refine box_event ?hg (N := 3) ?hd (cs := #[.int .i64 a1_0, .string a1_1]) (t := 32) ?hr ?_; (case hd => rfl); (case hg => rfl); (case hr => first | (go_simp; done) | (go_simp; rfl)); intro gb454 hg w5 hbox hb; have n0_ := Aside0.mk (below_step (by repeat (first | (with_reducible first | exact HB.out | apply below_alloc | apply pw_below_drewN | apply below_drew1) | exact HB.out)) hb); have n1_ := Aside0.mk (hbox); have n2_ := Aside0.mk ((by rw [hg]; exact (below_size (by repeat (first | (with_reducible first | exact HB.out | apply below_alloc | apply pw_below_drewN | apply below_drew1) | exact HB.out))) : w.heap.size ≤ gb454)); have n3_ := Aside0.mk ((by rw [hg]; exact (below_size (by repeat (first | (with_reducible first | exact HB.out | apply below_alloc | apply pw_below_drewN | apply below_drew1) | exact HB.out))) : w.heap.size ≤ gb454)); clear HB; have HB := n0_; have BK454 := n1_; have GW454 := n2_; have GE454 := n3_; clear n0_ n1_ n2_ n3_; clear hb hbox hg; have hcz6_0 : w5.cell? ⟨gb454, 0, none⟩ = some (.int .i64 a1_0) := (blk_cell BK454.out 0).trans rfl; have hcz6_1 : w5.cell? ⟨gb454, 1, none⟩ = some (.string a1_1) := (blk_cell BK454.out 1).trans rfl; have hfz6_0 := blk_frozen BK454.out 0; have hfz6_1 := blk_frozen BK454.out 1) | ((with_reducible refine gate_callee (f := 52) rfl ?_); refine goesL_ (some 6) rfl rfl Try.func52 (by kernel_rfl) rfl #[.agg #[.int .i64 a1_0, .string a1_1]] rfl (by (try simp only [List.map_toArray, List.map_cons, List.map_nil]); first | done | rfl | (simp only [List.length_drop, List.length_take]; rfl)) ?_; (with_reducible refine (impl_TableOk.calls k a1_0 a1_1 true _ A3.out).mono ?_); rintro e w7 ⟨rfl, hb⟩; refine ⟨_, rfl, ?_⟩; have n0_ := Aside0.mk (blk_below (g := gb454) (o := .cells #[.int .i64 a1_0, .string a1_1] 32 (0, 0)) (by (with_reducible repeat (first | refine blk_drewN ?_ _ | refine blk_drew ?_ | refine blk_alloc ?_ _)); exact BK454.out) hb); have n1_ := Aside0.mk (below_step (by repeat (first | (with_reducible first | exact HB.out | apply below_alloc | apply pw_below_drewN | apply below_drew1 | refine below_set ?_ GE454.out) | exact HB.out)) hb); clear BK454; clear HB; have BK454 := n0_; have HB := n1_; clear n0_ n1_; (try clear hb); (try clear hb2); (try clear hk); (try clear hi); have hcz8_0 : w7.cell? ⟨gb454, 0, none⟩ = some (.int .i64 a1_0) := (blk_cell BK454.out 0).trans rfl; have hcz8_1 : w7.cell? ⟨gb454, 1, none⟩ = some (.string a1_1) := (blk_cell BK454.out 1).trans rfl; have hfz8_0 := blk_frozen BK454.out 0; have hfz8_1 := blk_frozen BK454.out 1))
    go_ret
    exact ⟨by first | rfl | (simp [errW_none, errW_some] <;> rfl) | (simp [*, errW_none, errW_some] <;> rfl), by repeat (first | (with_reducible first | exact HB.out | apply below_alloc | apply pw_below_drewN | apply below_drew1 | refine below_set ?_ GE454.out) | exact HB.out)⟩
  · replace c4 := Bool.eq_false_iff.mpr c4
    subst c4
    have H1 : (some false) = some r := by rw [if_neg (show ¬ (false = true) by decide)] at H; exact H
    clear H
    have H := H1
    clear H1
    obtain rfl := Option.some.inj H
    go_enter Try.func65, Try.ntmps65
    go_wp2_with (first | ((with_reducible refine gate_dst (N := 3) rfl ?_); (try (refine gate_guard (by rfl) ?_; dsimp only)); refine box_event ?hg (N := 3) ?hd (cs := #[.int .i64 a1_0, .string a1_1]) (t := 32) ?hr ?_; (case hd => rfl); (case hg => rfl); (case hr => first | (go_simp; done) | (go_simp; rfl)); intro gb454 hg w9 hbox hb; have n0_ := Aside0.mk (below_step (by repeat (first | (with_reducible first | exact HB.out | apply below_alloc | apply pw_below_drewN | apply below_drew1) | exact HB.out)) hb); have n1_ := Aside0.mk (hbox); have n2_ := Aside0.mk ((by rw [hg]; exact (below_size (by repeat (first | (with_reducible first | exact HB.out | apply below_alloc | apply pw_below_drewN | apply below_drew1) | exact HB.out))) : w.heap.size ≤ gb454)); have n3_ := Aside0.mk ((by rw [hg]; exact (below_size (by repeat (first | (with_reducible first | exact HB.out | apply below_alloc | apply pw_below_drewN | apply below_drew1) | exact HB.out))) : w.heap.size ≤ gb454)); clear HB; have HB := n0_; have BK454 := n1_; have GW454 := n2_; have GE454 := n3_; clear n0_ n1_ n2_ n3_; clear hb hbox hg; have hcz10_0 : w9.cell? ⟨gb454, 0, none⟩ = some (.int .i64 a1_0) := (blk_cell BK454.out 0).trans rfl; have hcz10_1 : w9.cell? ⟨gb454, 1, none⟩ = some (.string a1_1) := (blk_cell BK454.out 1).trans rfl; have hfz10_0 := blk_frozen BK454.out 0; have hfz10_1 := blk_frozen BK454.out 1) | ((with_reducible refine gate_callee (f := 52) rfl ?_); refine goesL_ (some 6) rfl rfl Try.func52 (by kernel_rfl) rfl #[.agg #[.int .i64 a1_0, .string a1_1]] rfl (by (try simp only [List.map_toArray, List.map_cons, List.map_nil]); first | done | rfl | (simp only [List.length_drop, List.length_take]; rfl)) ?_; (with_reducible refine (impl_TableOk.calls k a1_0 a1_1 false _ A3.out).mono ?_); rintro e w11 ⟨rfl, hb⟩; refine ⟨_, rfl, ?_⟩; have n0_ := Aside0.mk (blk_below (g := gb454) (o := .cells #[.int .i64 a1_0, .string a1_1] 32 (0, 0)) (by (with_reducible repeat (first | refine blk_drewN ?_ _ | refine blk_drew ?_ | refine blk_alloc ?_ _)); exact BK454.out) hb); have n1_ := Aside0.mk (below_step (by repeat (first | (with_reducible first | exact HB.out | apply below_alloc | apply pw_below_drewN | apply below_drew1 | refine below_set ?_ GE454.out) | exact HB.out)) hb); clear BK454; clear HB; have BK454 := n0_; have HB := n1_; clear n0_ n1_; (try clear hb); (try clear hb2); (try clear hk); (try clear hi)))
    go_ret
    exact ⟨by first | rfl | (simp [errW_none, errW_some] <;> rfl) | (simp [*, errW_none, errW_some] <;> rfl), by repeat (first | (with_reducible first | exact HB.out | apply below_alloc | apply pw_below_drewN | apply below_drew1 | refine below_set ?_ GE454.out) | exact HB.out)⟩

end Go.Proofs.Ytfincfnklcllnaa.G
