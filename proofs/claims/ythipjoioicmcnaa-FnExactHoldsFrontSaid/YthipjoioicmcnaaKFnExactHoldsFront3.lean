-- texts of this session, merged by a program of it (wip/gen/pack.py)
import Derived.Test.YthipjoioicmcnaaKFnExactHoldsFront1
import Derived.Test.YthipjoioicmcnaaKFnExactHoldsFront2
namespace Go.Proofs.Ythipjoioicmcnaa.G
open Go.Proofs.Ythipjoioicmcnaa.Sh
open Go.RowKit Go.Proofs.YthipjoioicmcnaaW.PrintWords Go.Proofs.YthipjoioicmcnaaW.PrintLast Go.Proofs.YthipjoioicmcnaaW.PrintMore
attribute [local go_sem] max2_int min2_int max_two min_two max_three min_three max_four min_four
set_option linter.unusedVariables false
set_option linter.unusedSimpArgs false
def impl_Less.f (a0:Int) (a1:Int) (a2:Int):Option (Int):=(impl_two.f a0 a1 a2).bind fun A2=>(if A2=true then ((impl_bit.f (decide (a1 < a2))).bind fun A0=>(some A0)) else ((impl_bit.f false).bind fun A1=>(some A1)))
set_option maxHeartbeats 8000000 in
set_option maxRecDepth 100000 in
theorem impl_Less.calls (a0:Int) (a1:Int) (a2:Int) (r:Int) (w:World) (h:impl_Less.f a0 a1 a2=some r) :
  Calls Try.prog 142 #[.int .i64 a0,.int .i64 a1,.int .i64 a2] w fun e w'=>e = .returned (.int .i64 r)∧Drawn0 w w':=by
 have H:((impl_two.f a0 a1 a2).bind fun A2=>(if A2=true then ((impl_bit.f (decide (a1 < a2))).bind fun A0=>(some A0)) else ((impl_bit.f false).bind fun A1=>(some A1))))=some r:=h;clear h;replace H:=ob H;obtain ⟨A2,A40,H⟩:=H;replace H:(if A2=true then ((impl_bit.f (decide (a1 < a2))).bind fun A0=>(some A0)) else ((impl_bit.f false).bind fun A1=>(some A1)))=some r:=H;have A4:=Aside0.mk A40;clear A40
 by_cases c5:A2=true
 ·subst c5
  have H1:((impl_bit.f (decide (a1 < a2))).bind fun A0=>(some A0))=some r:=by rw [if_pos rfl] at H;exact H
  clear H;have H:=H1;clear H1;replace H:=ob H;obtain ⟨A0,A60,H⟩:=H;replace H:(some A0)=some r:=H;have A6:=Aside0.mk A60;clear A60;obtain rfl:=os H
  go_enter Try.func142,Try.ntmps142
  go_wp2_with (first|((with_reducible refine gate_callee (f:=173) rfl ?_);refine goesL_ (some 10) rfl rfl Try.func173 (by kernel_rfl) rfl #[.int .i64 a0,.int .i64 a1,.int .i64 a2] rfl ml ?_;(with_reducible refine (impl_two.calls a0 a1 a2 true _ A4.out).mono ?_);rintro e w' ⟨rfl,⟨nd,rfl⟩⟩;refine ⟨_,rfl,?_⟩)|((with_reducible refine gate_callee (f:=111) rfl ?_);refine goesL_ (some 16) rfl rfl Try.func111 (by kernel_rfl) rfl #[.bool (decide (a1 < a2))] rfl ml ?_;(with_reducible refine (impl_bit.calls (decide (a1 < a2)) A0 _ A6.out).mono ?_);rintro e w' ⟨rfl,⟨nd,rfl⟩⟩;refine ⟨_,rfl,?_⟩));go_ret;exact ⟨e1,dn⟩
 ·replace c5:=Bool.eq_false_iff.mpr c5;subst c5
  have H1:((impl_bit.f false).bind fun A1=>(some A1))=some r:=by rw [if_neg (show ¬ (false=true) by decide)] at H;exact H
  clear H;have H:=H1;clear H1;replace H:=ob H;obtain ⟨A1,A70,H⟩:=H;replace H:(some A1)=some r:=H;have A7:=Aside0.mk A70;clear A70;obtain rfl:=os H
  go_enter Try.func142,Try.ntmps142
  go_wp2_with (first|((with_reducible refine gate_callee (f:=173) rfl ?_);refine goesL_ (some 10) rfl rfl Try.func173 (by kernel_rfl) rfl #[.int .i64 a0,.int .i64 a1,.int .i64 a2] rfl ml ?_;(with_reducible refine (impl_two.calls a0 a1 a2 false _ A4.out).mono ?_);rintro e w' ⟨rfl,⟨nd,rfl⟩⟩;refine ⟨_,rfl,?_⟩)|((with_reducible refine gate_callee (f:=111) rfl ?_);refine goesL_ (some 16) rfl rfl Try.func111 (by kernel_rfl) rfl #[.bool false] rfl ml ?_;(with_reducible refine (impl_bit.calls false A1 _ A7.out).mono ?_);rintro e w' ⟨rfl,⟨nd,rfl⟩⟩;refine ⟨_,rfl,?_⟩));go_ret;exact ⟨e1,dn⟩
def impl_Signed.f (a0:Int) (a1:Int):Option (Int):=(impl_WordOk.f a0 a1).bind fun A0=>(if A0=true then (if 0≤(IntKind.u64.wrap (wrap64 (a0 - 1))) then (if a1 ≥ (shl .i64 1 (IntKind.u64.wrap (wrap64 (a0 - 1)))) then (if 0≤(IntKind.u64.wrap (a0)) then (some (wrap64 (a1 - (shl .i64 1 (IntKind.u64.wrap (a0)))))) else (none)) else (some a1)) else (none)) else (some 0))
set_option maxHeartbeats 8000000 in
set_option maxRecDepth 100000 in
theorem impl_Signed.calls (a0:Int) (a1:Int) (r:Int) (w:World) (h:impl_Signed.f a0 a1=some r) :
  Calls Try.prog 174 #[.int .i64 a0,.int .i64 a1] w fun e w'=>e = .returned (.int .i64 r)∧Drawn0 w w':=by
 have H:((impl_WordOk.f a0 a1).bind fun A0=>(if A0=true then (if 0≤(IntKind.u64.wrap (wrap64 (a0 - 1))) then (if a1 ≥ (shl .i64 1 (IntKind.u64.wrap (wrap64 (a0 - 1)))) then (if 0≤(IntKind.u64.wrap (a0)) then (some (wrap64 (a1 - (shl .i64 1 (IntKind.u64.wrap (a0)))))) else (none)) else (some a1)) else (none)) else (some 0)))=some r:=h;clear h;replace H:=ob H;obtain ⟨A0,A30,H⟩:=H;replace H:(if A0=true then (if 0≤(IntKind.u64.wrap (wrap64 (a0 - 1))) then (if a1 ≥ (shl .i64 1 (IntKind.u64.wrap (wrap64 (a0 - 1)))) then (if 0≤(IntKind.u64.wrap (a0)) then (some (wrap64 (a1 - (shl .i64 1 (IntKind.u64.wrap (a0)))))) else (none)) else (some a1)) else (none)) else (some 0))=some r:=H;have A3:=Aside0.mk A30;clear A30
 by_cases c4:A0=true
 ·subst c4
  have H1:(if 0≤(IntKind.u64.wrap (wrap64 (a0 - 1))) then (if a1 ≥ (shl .i64 1 (IntKind.u64.wrap (wrap64 (a0 - 1)))) then (if 0≤(IntKind.u64.wrap (a0)) then (some (wrap64 (a1 - (shl .i64 1 (IntKind.u64.wrap (a0)))))) else (none)) else (some a1)) else (none))=some r:=by rw [if_pos rfl] at H;exact H
  clear H;have H:=H1;clear H1;obtain ⟨ji5,hji5⟩:∃ j_:Int,(IntKind.u64.wrap (wrap64 (a0 - 1)))=j_:=⟨_,rfl⟩
  replace H:(if 0≤(ji5) then (if a1 ≥ (shl .i64 1 (ji5)) then (if 0≤(IntKind.u64.wrap (a0)) then (some (wrap64 (a1 - (shl .i64 1 (IntKind.u64.wrap (a0)))))) else (none)) else (some a1)) else (none))=some r:=by first|(rw [hji5] at H;exact H)|(simp only [hji5] at H ⊢;exact H)
  (try rw [hji5] at A3)
  by_cases c6:0≤(ji5)
  ·rw [if_pos c6] at H;have c6b0:=eq_true c6;have c6b1:decide (0≤(ji5))=true:=decide_eq_true c6;clear c6;obtain ⟨ji7,hji7⟩:∃ j_:Int,(shl .i64 1 (ji5))=j_:=⟨_,rfl⟩
   replace H:(if a1 ≥ (ji7) then (if 0≤(IntKind.u64.wrap (a0)) then (some (wrap64 (a1 - (shl .i64 1 (IntKind.u64.wrap (a0)))))) else (none)) else (some a1))=some r:=by first|(rw [hji7] at H;exact H)|(simp only [hji7] at H ⊢;exact H)
   (try rw [hji7] at A3)
   have hji7_:(IntKind.i64.wrap (1 * 2 ^ min (ji5).toNat 64))=ji7:=hji7;have hji7z:(ji5)≤64→(IntKind.i64.wrap (1 * 2 ^ (ji5).toNat))=ji7:=shl_small hji7
   have hji7u:(IntKind.i64.wrap (2 ^ min (ji5).toNat 64))=ji7:=by have h_:=hji7_;rw [Int.one_mul] at h_;exact h_
   have hji7v:(ji5)≤64→(IntKind.i64.wrap (2 ^ (ji5).toNat))=ji7:=fun hle_=>by have h_:=hji7z hle_;rw [Int.one_mul] at h_;exact h_
   have hji7y:(wrap64 (1 * 2 ^ min (ji5).toNat 64))=ji7:=(i64_w _).symm.trans hji7_
   have hji7x:(ji5)≤64→(wrap64 (1 * 2 ^ (ji5).toNat))=ji7:=fun h_=>(i64_w _).symm.trans (hji7z h_)
   by_cases c8:a1 ≥ (ji7)
   ·rw [if_pos c8] at H;have c8b0:decide ((ji7)≤a1)=true:=decide_eq_true c8;clear c8;obtain ⟨ji9,hji9⟩:∃ j_:Int,(IntKind.u64.wrap (a0))=j_:=⟨_,rfl⟩
    replace H:(if 0≤(ji9) then (some (wrap64 (a1 - (shl .i64 1 (ji9))))) else (none))=some r:=by first|(rw [hji9] at H;exact H)|(simp only [hji9] at H ⊢;exact H)
    (try rw [hji9] at A3)
    by_cases c10:0≤(ji9)
    ·rw [if_pos c10] at H;have c10b0:=eq_true c10;have c10b1:decide (0≤(ji9))=true:=decide_eq_true c10;clear c10;obtain ⟨ji11,hji11⟩:∃ j_:Int,(shl .i64 1 (ji9))=j_:=⟨_,rfl⟩
     replace H:(some (wrap64 (a1 - (ji11))))=some r:=by first|(rw [hji11] at H;exact H)|(simp only [hji11] at H ⊢;exact H)
     (try rw [hji11] at A3)
     have hji11_:(IntKind.i64.wrap (1 * 2 ^ min (ji9).toNat 64))=ji11:=hji11;have hji11z:(ji9)≤64→(IntKind.i64.wrap (1 * 2 ^ (ji9).toNat))=ji11:=shl_small hji11
     have hji11u:(IntKind.i64.wrap (2 ^ min (ji9).toNat 64))=ji11:=by have h_:=hji11_;rw [Int.one_mul] at h_;exact h_
     have hji11v:(ji9)≤64→(IntKind.i64.wrap (2 ^ (ji9).toNat))=ji11:=fun hle_=>by have h_:=hji11z hle_;rw [Int.one_mul] at h_;exact h_
     have hji11y:(wrap64 (1 * 2 ^ min (ji9).toNat 64))=ji11:=(i64_w _).symm.trans hji11_
     have hji11x:(ji9)≤64→(wrap64 (1 * 2 ^ (ji9).toNat))=ji11:=fun h_=>(i64_w _).symm.trans (hji11z h_)
     obtain rfl:=os H
     go_enter Try.func174,Try.ntmps174
     go_wp2_with (first|((with_reducible refine gate_callee (f:=165) rfl ?_);refine goesL_ (some 8) rfl rfl Try.func165 (by kernel_rfl) rfl #[.int .i64 a0,.int .i64 a1] rfl ml ?_;(with_reducible refine (impl_WordOk.calls a0 a1 true _ A3.out).mono ?_);rintro e w' ⟨rfl,⟨nd,rfl⟩⟩;refine ⟨_,rfl,?_⟩));go_ret;exact ⟨by first|rfl|(simp;done)|(simp only [← hji5,← hji7,← hji9,← hji11] <;> (first|rfl|simp))|(simp [*];done),by repeat (first|exact Drawn0.refl _|apply Drawn0.step)⟩
    ·rw [if_neg c10] at H;exact absurd H (by simp)
   ·rw [if_neg c8] at H;have c8b0:decide ((ji7)≤a1)=false:=decide_eq_false c8;clear c8;obtain rfl:=os H
    go_enter Try.func174,Try.ntmps174
    go_wp2_with (first|((with_reducible refine gate_callee (f:=165) rfl ?_);refine goesL_ (some 8) rfl rfl Try.func165 (by kernel_rfl) rfl #[.int .i64 a0,.int .i64 a1] rfl ml ?_;(with_reducible refine (impl_WordOk.calls a0 a1 true _ A3.out).mono ?_);rintro e w' ⟨rfl,⟨nd,rfl⟩⟩;refine ⟨_,rfl,?_⟩));go_ret;exact ⟨by first|rfl|(simp;done)|(simp only [← hji5,← hji7] <;> (first|rfl|simp))|(simp [*];done),by repeat (first|exact Drawn0.refl _|apply Drawn0.step)⟩
  ·rw [if_neg c6] at H;exact absurd H (by simp)
 ·replace c4:=Bool.eq_false_iff.mpr c4;subst c4
  have H1:(some 0)=some r:=by rw [if_neg (show ¬ (false=true) by decide)] at H;exact H
  clear H;have H:=H1;clear H1;obtain rfl:=os H
  go_enter Try.func174,Try.ntmps174
  go_wp2_with (first|((with_reducible refine gate_callee (f:=165) rfl ?_);refine goesL_ (some 8) rfl rfl Try.func165 (by kernel_rfl) rfl #[.int .i64 a0,.int .i64 a1] rfl ml ?_;(with_reducible refine (impl_WordOk.calls a0 a1 false _ A3.out).mono ?_);rintro e w' ⟨rfl,⟨nd,rfl⟩⟩;refine ⟨_,rfl,?_⟩));go_ret;exact ⟨e1,dn⟩
def impl_LessSigned.f (a0:Int) (a1:Int) (a2:Int):Option (Int):=(impl_two.f a0 a1 a2).bind fun A5=>(if A5=true then ((impl_Signed.f a0 a1).bind fun A2=>((impl_Signed.f a0 a2).bind fun A0=>((impl_bit.f (decide (A2 < A0))).bind fun A1=>(some A1)))) else ((impl_bit.f false).bind fun A3=>(some A3)))
set_option maxHeartbeats 8000000 in
set_option maxRecDepth 100000 in
theorem impl_LessSigned.calls (a0:Int) (a1:Int) (a2:Int) (r:Int) (w:World) (h:impl_LessSigned.f a0 a1 a2=some r) :
  Calls Try.prog 143 #[.int .i64 a0,.int .i64 a1,.int .i64 a2] w fun e w'=>e = .returned (.int .i64 r)∧Drawn0 w w':=by
 have H:((impl_two.f a0 a1 a2).bind fun A5=>(if A5=true then ((impl_Signed.f a0 a1).bind fun A2=>((impl_Signed.f a0 a2).bind fun A0=>((impl_bit.f (decide (A2 < A0))).bind fun A1=>(some A1)))) else ((impl_bit.f false).bind fun A3=>(some A3))))=some r:=h;clear h;replace H:=ob H;obtain ⟨A5,A40,H⟩:=H;replace H:(if A5=true then ((impl_Signed.f a0 a1).bind fun A2=>((impl_Signed.f a0 a2).bind fun A0=>((impl_bit.f (decide (A2 < A0))).bind fun A1=>(some A1)))) else ((impl_bit.f false).bind fun A3=>(some A3)))=some r:=H;have A4:=Aside0.mk A40;clear A40
 by_cases c5:A5=true
 ·subst c5
  have H1:((impl_Signed.f a0 a1).bind fun A2=>((impl_Signed.f a0 a2).bind fun A0=>((impl_bit.f (decide (A2 < A0))).bind fun A1=>(some A1))))=some r:=by rw [if_pos rfl] at H;exact H
  clear H;have H:=H1;clear H1;replace H:=ob H;obtain ⟨A2,A60,H⟩:=H;replace H:((impl_Signed.f a0 a2).bind fun A0=>((impl_bit.f (decide (A2 < A0))).bind fun A1=>(some A1)))=some r:=H;have A6:=Aside0.mk A60;clear A60;replace H:=ob H;obtain ⟨A0,A70,H⟩:=H;replace H:((impl_bit.f (decide (A2 < A0))).bind fun A1=>(some A1))=some r:=H;have A7:=Aside0.mk A70;clear A70;replace H:=ob H;obtain ⟨A1,A80,H⟩:=H;replace H:(some A1)=some r:=H;have A8:=Aside0.mk A80;clear A80;obtain rfl:=os H
  go_enter Try.func143,Try.ntmps143
  go_wp2_with (first|((with_reducible refine gate_callee (f:=173) rfl ?_);refine goesL_ (some 10) rfl rfl Try.func173 (by kernel_rfl) rfl #[.int .i64 a0,.int .i64 a1,.int .i64 a2] rfl ml ?_;(with_reducible refine (impl_two.calls a0 a1 a2 true _ A4.out).mono ?_);rintro e w' ⟨rfl,⟨nd,rfl⟩⟩;refine ⟨_,rfl,?_⟩)|(go_at_call 174;(try simp only [i64_w,i32_w]);(with_reducible refine (impl_Signed.calls a0 a1 A2 _ A6.out).mono ?_);rintro e w' ⟨rfl,⟨nd,rfl⟩⟩)|(go_at_call 174;(try simp only [i64_w,i32_w]);(with_reducible refine (impl_Signed.calls a0 a2 A0 _ A7.out).mono ?_);rintro e w' ⟨rfl,⟨nd,rfl⟩⟩)|((with_reducible refine gate_callee (f:=111) rfl ?_);refine goesL_ (some 20) rfl rfl Try.func111 (by kernel_rfl) rfl #[.bool (decide (A2 < A0))] rfl ml ?_;(with_reducible refine (impl_bit.calls (decide (A2 < A0)) A1 _ A8.out).mono ?_);rintro e w' ⟨rfl,⟨nd,rfl⟩⟩;refine ⟨_,rfl,?_⟩));go_ret;exact ⟨e1,dn⟩
 ·replace c5:=Bool.eq_false_iff.mpr c5;subst c5
  have H1:((impl_bit.f false).bind fun A3=>(some A3))=some r:=by rw [if_neg (show ¬ (false=true) by decide)] at H;exact H
  clear H;have H:=H1;clear H1;replace H:=ob H;obtain ⟨A3,A90,H⟩:=H;replace H:(some A3)=some r:=H;have A9:=Aside0.mk A90;clear A90;obtain rfl:=os H
  go_enter Try.func143,Try.ntmps143
  go_wp2_with (first|((with_reducible refine gate_callee (f:=173) rfl ?_);refine goesL_ (some 10) rfl rfl Try.func173 (by kernel_rfl) rfl #[.int .i64 a0,.int .i64 a1,.int .i64 a2] rfl ml ?_;(with_reducible refine (impl_two.calls a0 a1 a2 false _ A4.out).mono ?_);rintro e w' ⟨rfl,⟨nd,rfl⟩⟩;refine ⟨_,rfl,?_⟩)|((with_reducible refine gate_callee (f:=111) rfl ?_);refine goesL_ (some 20) rfl rfl Try.func111 (by kernel_rfl) rfl #[.bool false] rfl ml ?_;(with_reducible refine (impl_bit.calls false A3 _ A9.out).mono ?_);rintro e w' ⟨rfl,⟨nd,rfl⟩⟩;refine ⟨_,rfl,?_⟩));go_ret;exact ⟨e1,dn⟩
def impl_cut.f (a0:Int) (a1:Int):Option (Int):=if 0≤(IntKind.u64.wrap (a0)) then (some (Go.bits .and .i64 a1 (wrap64 ((shl .i64 1 (IntKind.u64.wrap (a0))) - 1)))) else (none)
set_option maxHeartbeats 8000000 in
set_option maxRecDepth 100000 in
theorem impl_cut.calls (a0:Int) (a1:Int) (r:Int) (w:World) (h:impl_cut.f a0 a1=some r) :
  Calls Try.prog 64 #[.int .i64 a0,.int .i64 a1] w fun e w'=>e = .returned (.int .i64 r)∧Drawn0 w w':=by
 have H:(if 0≤(IntKind.u64.wrap (a0)) then (some (Go.bits .and .i64 a1 (wrap64 ((shl .i64 1 (IntKind.u64.wrap (a0))) - 1)))) else (none))=some r:=h;clear h;obtain ⟨ji3,hji3⟩:∃ j_:Int,(IntKind.u64.wrap (a0))=j_:=⟨_,rfl⟩
 replace H:(if 0≤(ji3) then (some (Go.bits .and .i64 a1 (wrap64 ((shl .i64 1 (ji3)) - 1)))) else (none))=some r:=by first|(rw [hji3] at H;exact H)|(simp only [hji3] at H ⊢;exact H)
 by_cases c4:0≤(ji3)
 ·rw [if_pos c4] at H;have c4b0:=eq_true c4;have c4b1:decide (0≤(ji3))=true:=decide_eq_true c4;clear c4;obtain ⟨ji5,hji5⟩:∃ j_:Int,(shl .i64 1 (ji3))=j_:=⟨_,rfl⟩
  replace H:(some (Go.bits .and .i64 a1 (wrap64 ((ji5) - 1))))=some r:=by first|(rw [hji5] at H;exact H)|(simp only [hji5] at H ⊢;exact H)
  have hji5_:(IntKind.i64.wrap (1 * 2 ^ min (ji3).toNat 64))=ji5:=hji5;have hji5z:(ji3)≤64→(IntKind.i64.wrap (1 * 2 ^ (ji3).toNat))=ji5:=shl_small hji5
  have hji5u:(IntKind.i64.wrap (2 ^ min (ji3).toNat 64))=ji5:=by have h_:=hji5_;rw [Int.one_mul] at h_;exact h_
  have hji5v:(ji3)≤64→(IntKind.i64.wrap (2 ^ (ji3).toNat))=ji5:=fun hle_=>by have h_:=hji5z hle_;rw [Int.one_mul] at h_;exact h_
  have hji5y:(wrap64 (1 * 2 ^ min (ji3).toNat 64))=ji5:=(i64_w _).symm.trans hji5_
  have hji5x:(ji3)≤64→(wrap64 (1 * 2 ^ (ji3).toNat))=ji5:=fun h_=>(i64_w _).symm.trans (hji5z h_)
  obtain rfl:=os H
  go_enter Try.func64,Try.ntmps64
  go_wp2;go_ret;exact ⟨by first|rfl|(simp;done)|(simp only [← hji3,← hji5] <;> (first|rfl|simp))|(simp [*];done),by repeat (first|exact Drawn0.refl _|apply Drawn0.step)⟩
 ·rw [if_neg c4] at H;exact absurd H (by simp)
def impl_Slice.f (a0:Int) (a1:Int) (a2:Int) (a3:Int):Option (Int):=(impl_WordOk.f a0 a1).bind fun A3=>(if A3=true then ((impl_within.f a3 1 a0).bind fun A2=>(if A2=true then ((impl_within.f a2 0 (wrap64 (a0 - a3))).bind fun A1=>(if A1=true then (if 0≤(IntKind.u64.wrap (a2)) then ((impl_cut.f a3 (shr .i64 a1 (IntKind.u64.wrap (a2)))).bind fun A0=>(some A0)) else (none)) else (some 0))) else (some 0))) else (some 0))
set_option maxHeartbeats 8000000 in
set_option maxRecDepth 100000 in
theorem impl_Slice.calls (a0:Int) (a1:Int) (a2:Int) (a3:Int) (r:Int) (w:World) (h:impl_Slice.f a0 a1 a2 a3=some r) :
  Calls Try.prog 144 #[.int .i64 a0,.int .i64 a1,.int .i64 a2,.int .i64 a3] w fun e w'=>e = .returned (.int .i64 r)∧Drawn0 w w':=by
 have H:((impl_WordOk.f a0 a1).bind fun A3=>(if A3=true then ((impl_within.f a3 1 a0).bind fun A2=>(if A2=true then ((impl_within.f a2 0 (wrap64 (a0 - a3))).bind fun A1=>(if A1=true then (if 0≤(IntKind.u64.wrap (a2)) then ((impl_cut.f a3 (shr .i64 a1 (IntKind.u64.wrap (a2)))).bind fun A0=>(some A0)) else (none)) else (some 0))) else (some 0))) else (some 0)))=some r:=h;clear h;replace H:=ob H;obtain ⟨A3,A50,H⟩:=H;replace H:(if A3=true then ((impl_within.f a3 1 a0).bind fun A2=>(if A2=true then ((impl_within.f a2 0 (wrap64 (a0 - a3))).bind fun A1=>(if A1=true then (if 0≤(IntKind.u64.wrap (a2)) then ((impl_cut.f a3 (shr .i64 a1 (IntKind.u64.wrap (a2)))).bind fun A0=>(some A0)) else (none)) else (some 0))) else (some 0))) else (some 0))=some r:=H;have A5:=Aside0.mk A50;clear A50
 by_cases c6:A3=true
 ·subst c6
  have H1:((impl_within.f a3 1 a0).bind fun A2=>(if A2=true then ((impl_within.f a2 0 (wrap64 (a0 - a3))).bind fun A1=>(if A1=true then (if 0≤(IntKind.u64.wrap (a2)) then ((impl_cut.f a3 (shr .i64 a1 (IntKind.u64.wrap (a2)))).bind fun A0=>(some A0)) else (none)) else (some 0))) else (some 0)))=some r:=by rw [if_pos rfl] at H;exact H
  clear H;have H:=H1;clear H1;replace H:=ob H;obtain ⟨A2,A70,H⟩:=H;replace H:(if A2=true then ((impl_within.f a2 0 (wrap64 (a0 - a3))).bind fun A1=>(if A1=true then (if 0≤(IntKind.u64.wrap (a2)) then ((impl_cut.f a3 (shr .i64 a1 (IntKind.u64.wrap (a2)))).bind fun A0=>(some A0)) else (none)) else (some 0))) else (some 0))=some r:=H;have A7:=Aside0.mk A70;clear A70
  by_cases c8:A2=true
  ·subst c8
   have H1:((impl_within.f a2 0 (wrap64 (a0 - a3))).bind fun A1=>(if A1=true then (if 0≤(IntKind.u64.wrap (a2)) then ((impl_cut.f a3 (shr .i64 a1 (IntKind.u64.wrap (a2)))).bind fun A0=>(some A0)) else (none)) else (some 0)))=some r:=by rw [if_pos rfl] at H;exact H
   clear H;have H:=H1;clear H1;replace H:=ob H;obtain ⟨A1,A90,H⟩:=H;replace H:(if A1=true then (if 0≤(IntKind.u64.wrap (a2)) then ((impl_cut.f a3 (shr .i64 a1 (IntKind.u64.wrap (a2)))).bind fun A0=>(some A0)) else (none)) else (some 0))=some r:=H;have A9:=Aside0.mk A90;clear A90
   by_cases c10:A1=true
   ·subst c10
    have H1:(if 0≤(IntKind.u64.wrap (a2)) then ((impl_cut.f a3 (shr .i64 a1 (IntKind.u64.wrap (a2)))).bind fun A0=>(some A0)) else (none))=some r:=by rw [if_pos rfl] at H;exact H
    clear H;have H:=H1;clear H1;obtain ⟨ji11,hji11⟩:∃ j_:Int,(IntKind.u64.wrap (a2))=j_:=⟨_,rfl⟩
    replace H:(if 0≤(ji11) then ((impl_cut.f a3 (shr .i64 a1 (ji11))).bind fun A0=>(some A0)) else (none))=some r:=by first|(rw [hji11] at H;exact H)|(simp only [hji11] at H ⊢;exact H)
    (try rw [hji11] at A5)
    (try rw [hji11] at A7)
    (try rw [hji11] at A9)
    by_cases c12:0≤(ji11)
    ·rw [if_pos c12] at H;have c12b0:=eq_true c12;have c12b1:decide (0≤(ji11))=true:=decide_eq_true c12;clear c12;obtain ⟨ji13,hji13⟩:∃ j_:Int,(shr .i64 a1 (ji11))=j_:=⟨_,rfl⟩
     replace H:((impl_cut.f a3 (ji13)).bind fun A0=>(some A0))=some r:=by first|(rw [hji13] at H;exact H)|(simp only [hji13] at H ⊢;exact H)
     (try rw [hji13] at A5)
     (try rw [hji13] at A7)
     (try rw [hji13] at A9)
     have hji13_:(a1 / 2 ^ min (ji11).toNat 64)=ji13:=hji13;have hji13z:(ji11)≤64→(a1 / 2 ^ (ji11).toNat)=ji13:=shr_small hji13;replace H:=ob H;obtain ⟨A0,A140,H⟩:=H;replace H:(some A0)=some r:=H;have A14:=Aside0.mk A140;clear A140;obtain rfl:=os H
     go_enter Try.func144,Try.ntmps144
     go_wp2_with (first|((with_reducible refine gate_callee (f:=165) rfl ?_);refine goesL_ (some 11) rfl rfl Try.func165 (by kernel_rfl) rfl #[.int .i64 a0,.int .i64 a1] rfl ml ?_;(with_reducible refine (impl_WordOk.calls a0 a1 true _ A5.out).mono ?_);rintro e w' ⟨rfl,⟨nd,rfl⟩⟩;refine ⟨_,rfl,?_⟩)|(go_at_call 61;(try simp only [i64_w,i32_w]);(with_reducible refine (impl_within.calls a3 1 a0 true _ A7.out).mono ?_);rintro e w' ⟨rfl,⟨nd,rfl⟩⟩)|(go_at_call 61;(try simp only [i64_w,i32_w]);(with_reducible refine (impl_within.calls a2 0 (wrap64 (a0 - a3)) true _ A9.out).mono ?_);rintro e w' ⟨rfl,⟨nd,rfl⟩⟩)|((with_reducible refine gate_callee (f:=64) rfl ?_);refine goesL_ (some 32) rfl rfl Try.func64 (by kernel_rfl) rfl #[.int .i64 a3,.int .i64 ji13] rfl (by (try simp only [List.map_toArray,List.map_cons,List.map_nil]);first|done|(simp only [hji13];rfl)|rfl|(simp only [List.length_drop,List.length_take];rfl)) ?_;(with_reducible refine (impl_cut.calls a3 ji13 A0 _ A14.out).mono ?_);rintro e w' ⟨rfl,⟨nd,rfl⟩⟩;refine ⟨_,rfl,?_⟩));go_ret;exact ⟨by first|rfl|(simp;done)|(simp only [← hji11,← hji13] <;> (first|rfl|simp))|(simp [*];done),by repeat (first|exact Drawn0.refl _|apply Drawn0.step)⟩
    ·rw [if_neg c12] at H;exact absurd H (by simp)
   ·replace c10:=Bool.eq_false_iff.mpr c10;subst c10
    have H1:(some 0)=some r:=by rw [if_neg (show ¬ (false=true) by decide)] at H;exact H
    clear H;have H:=H1;clear H1;obtain rfl:=os H
    go_enter Try.func144,Try.ntmps144
    go_wp2_with (first|((with_reducible refine gate_callee (f:=165) rfl ?_);refine goesL_ (some 11) rfl rfl Try.func165 (by kernel_rfl) rfl #[.int .i64 a0,.int .i64 a1] rfl ml ?_;(with_reducible refine (impl_WordOk.calls a0 a1 true _ A5.out).mono ?_);rintro e w' ⟨rfl,⟨nd,rfl⟩⟩;refine ⟨_,rfl,?_⟩)|(go_at_call 61;(try simp only [i64_w,i32_w]);(with_reducible refine (impl_within.calls a3 1 a0 true _ A7.out).mono ?_);rintro e w' ⟨rfl,⟨nd,rfl⟩⟩)|(go_at_call 61;(try simp only [i64_w,i32_w]);(with_reducible refine (impl_within.calls a2 0 (wrap64 (a0 - a3)) false _ A9.out).mono ?_);rintro e w' ⟨rfl,⟨nd,rfl⟩⟩));go_ret;exact ⟨e1,dn⟩
  ·replace c8:=Bool.eq_false_iff.mpr c8;subst c8
   have H1:(some 0)=some r:=by rw [if_neg (show ¬ (false=true) by decide)] at H;exact H
   clear H;have H:=H1;clear H1;obtain rfl:=os H
   go_enter Try.func144,Try.ntmps144
   go_wp2_with (first|((with_reducible refine gate_callee (f:=165) rfl ?_);refine goesL_ (some 11) rfl rfl Try.func165 (by kernel_rfl) rfl #[.int .i64 a0,.int .i64 a1] rfl ml ?_;(with_reducible refine (impl_WordOk.calls a0 a1 true _ A5.out).mono ?_);rintro e w' ⟨rfl,⟨nd,rfl⟩⟩;refine ⟨_,rfl,?_⟩)|(go_at_call 61;(try simp only [i64_w,i32_w]);(with_reducible refine (impl_within.calls a3 1 a0 false _ A7.out).mono ?_);rintro e w' ⟨rfl,⟨nd,rfl⟩⟩));go_ret;exact ⟨e1,dn⟩
 ·replace c6:=Bool.eq_false_iff.mpr c6;subst c6
  have H1:(some 0)=some r:=by rw [if_neg (show ¬ (false=true) by decide)] at H;exact H
  clear H;have H:=H1;clear H1;obtain rfl:=os H
  go_enter Try.func144,Try.ntmps144
  go_wp2_with (first|((with_reducible refine gate_callee (f:=165) rfl ?_);refine goesL_ (some 11) rfl rfl Try.func165 (by kernel_rfl) rfl #[.int .i64 a0,.int .i64 a1] rfl ml ?_;(with_reducible refine (impl_WordOk.calls a0 a1 false _ A5.out).mono ?_);rintro e w' ⟨rfl,⟨nd,rfl⟩⟩;refine ⟨_,rfl,?_⟩));go_ret;exact ⟨e1,dn⟩
def impl_Add.f (a0:Int) (a1:Int) (a2:Int):Option (Int):=(impl_two.f a0 a1 a2).bind fun A1=>(if A1=true then ((impl_cut.f a0 (wrap64 (a1 + a2))).bind fun A0=>(some A0)) else (some 0))
set_option maxHeartbeats 8000000 in
set_option maxRecDepth 100000 in
theorem impl_Add.calls (a0:Int) (a1:Int) (a2:Int) (r:Int) (w:World) (h:impl_Add.f a0 a1 a2=some r) :
  Calls Try.prog 166 #[.int .i64 a0,.int .i64 a1,.int .i64 a2] w fun e w'=>e = .returned (.int .i64 r)∧Drawn0 w w':=by
 have H:((impl_two.f a0 a1 a2).bind fun A1=>(if A1=true then ((impl_cut.f a0 (wrap64 (a1 + a2))).bind fun A0=>(some A0)) else (some 0)))=some r:=h;clear h;replace H:=ob H;obtain ⟨A1,A40,H⟩:=H;replace H:(if A1=true then ((impl_cut.f a0 (wrap64 (a1 + a2))).bind fun A0=>(some A0)) else (some 0))=some r:=H;have A4:=Aside0.mk A40;clear A40
 by_cases c5:A1=true
 ·subst c5
  have H1:((impl_cut.f a0 (wrap64 (a1 + a2))).bind fun A0=>(some A0))=some r:=by rw [if_pos rfl] at H;exact H
  clear H;have H:=H1;clear H1;replace H:=ob H;obtain ⟨A0,A60,H⟩:=H;replace H:(some A0)=some r:=H;have A6:=Aside0.mk A60;clear A60;obtain rfl:=os H
  go_enter Try.func166,Try.ntmps166
  go_wp2_with (first|((with_reducible refine gate_callee (f:=173) rfl ?_);refine goesL_ (some 10) rfl rfl Try.func173 (by kernel_rfl) rfl #[.int .i64 a0,.int .i64 a1,.int .i64 a2] rfl ml ?_;(with_reducible refine (impl_two.calls a0 a1 a2 true _ A4.out).mono ?_);rintro e w' ⟨rfl,⟨nd,rfl⟩⟩;refine ⟨_,rfl,?_⟩)|((with_reducible refine gate_callee (f:=64) rfl ?_);refine goesL_ (some 16) rfl rfl Try.func64 (by kernel_rfl) rfl #[.int .i64 a0,.int .i64 (wrap64 (a1 + a2))] rfl ml ?_;(with_reducible refine (impl_cut.calls a0 (wrap64 (a1 + a2)) A0 _ A6.out).mono ?_);rintro e w' ⟨rfl,⟨nd,rfl⟩⟩;refine ⟨_,rfl,?_⟩));go_ret;exact ⟨e1,dn⟩
 ·replace c5:=Bool.eq_false_iff.mpr c5;subst c5
  have H1:(some 0)=some r:=by rw [if_neg (show ¬ (false=true) by decide)] at H;exact H
  clear H;have H:=H1;clear H1;obtain rfl:=os H
  go_enter Try.func166,Try.ntmps166
  go_wp2_with (first|((with_reducible refine gate_callee (f:=173) rfl ?_);refine goesL_ (some 10) rfl rfl Try.func173 (by kernel_rfl) rfl #[.int .i64 a0,.int .i64 a1,.int .i64 a2] rfl ml ?_;(with_reducible refine (impl_two.calls a0 a1 a2 false _ A4.out).mono ?_);rintro e w' ⟨rfl,⟨nd,rfl⟩⟩;refine ⟨_,rfl,?_⟩));go_ret;exact ⟨e1,dn⟩
def impl_Div.f (a0:Int) (a1:Int) (a2:Int):Option (Int):=(impl_two.f a0 a1 a2).bind fun A0=>(if A0=true then (if a2=0 then (if 0≤(IntKind.u64.wrap (a0)) then (some (wrap64 ((shl .i64 1 (IntKind.u64.wrap (a0))) - 1))) else (none)) else (some (wrap64 (Int.tdiv a1 a2)))) else (some 0))
set_option maxHeartbeats 8000000 in
set_option maxRecDepth 100000 in
theorem impl_Div.calls (a0:Int) (a1:Int) (a2:Int) (r:Int) (w:World) (h:impl_Div.f a0 a1 a2=some r) :
  Calls Try.prog 169 #[.int .i64 a0,.int .i64 a1,.int .i64 a2] w fun e w'=>e = .returned (.int .i64 r)∧Drawn0 w w':=by
 have H:((impl_two.f a0 a1 a2).bind fun A0=>(if A0=true then (if a2=0 then (if 0≤(IntKind.u64.wrap (a0)) then (some (wrap64 ((shl .i64 1 (IntKind.u64.wrap (a0))) - 1))) else (none)) else (some (wrap64 (Int.tdiv a1 a2)))) else (some 0)))=some r:=h;clear h;replace H:=ob H;obtain ⟨A0,A40,H⟩:=H;replace H:(if A0=true then (if a2=0 then (if 0≤(IntKind.u64.wrap (a0)) then (some (wrap64 ((shl .i64 1 (IntKind.u64.wrap (a0))) - 1))) else (none)) else (some (wrap64 (Int.tdiv a1 a2)))) else (some 0))=some r:=H;have A4:=Aside0.mk A40;clear A40
 by_cases c5:A0=true
 ·subst c5
  have H1:(if a2=0 then (if 0≤(IntKind.u64.wrap (a0)) then (some (wrap64 ((shl .i64 1 (IntKind.u64.wrap (a0))) - 1))) else (none)) else (some (wrap64 (Int.tdiv a1 a2))))=some r:=by rw [if_pos rfl] at H;exact H
  clear H;have H:=H1;clear H1
  by_cases c6:a2=0
  ·rw [if_pos c6] at H;have c6b0:(a2 == 0)=true:=beq_iff_eq.mpr c6;have c6b1:(a2 != 0)=false:=bne_eq_false_iff_eq.mpr c6;clear c6;obtain ⟨ji7,hji7⟩:∃ j_:Int,(IntKind.u64.wrap (a0))=j_:=⟨_,rfl⟩
   replace H:(if 0≤(ji7) then (some (wrap64 ((shl .i64 1 (ji7)) - 1))) else (none))=some r:=by first|(rw [hji7] at H;exact H)|(simp only [hji7] at H ⊢;exact H)
   (try rw [hji7] at A4)
   by_cases c8:0≤(ji7)
   ·rw [if_pos c8] at H;have c8b0:=eq_true c8;have c8b1:decide (0≤(ji7))=true:=decide_eq_true c8;clear c8;obtain ⟨ji9,hji9⟩:∃ j_:Int,(shl .i64 1 (ji7))=j_:=⟨_,rfl⟩
    replace H:(some (wrap64 ((ji9) - 1)))=some r:=by first|(rw [hji9] at H;exact H)|(simp only [hji9] at H ⊢;exact H)
    (try rw [hji9] at A4)
    have hji9_:(IntKind.i64.wrap (1 * 2 ^ min (ji7).toNat 64))=ji9:=hji9;have hji9z:(ji7)≤64→(IntKind.i64.wrap (1 * 2 ^ (ji7).toNat))=ji9:=shl_small hji9
    have hji9u:(IntKind.i64.wrap (2 ^ min (ji7).toNat 64))=ji9:=by have h_:=hji9_;rw [Int.one_mul] at h_;exact h_
    have hji9v:(ji7)≤64→(IntKind.i64.wrap (2 ^ (ji7).toNat))=ji9:=fun hle_=>by have h_:=hji9z hle_;rw [Int.one_mul] at h_;exact h_
    have hji9y:(wrap64 (1 * 2 ^ min (ji7).toNat 64))=ji9:=(i64_w _).symm.trans hji9_
    have hji9x:(ji7)≤64→(wrap64 (1 * 2 ^ (ji7).toNat))=ji9:=fun h_=>(i64_w _).symm.trans (hji9z h_)
    obtain rfl:=os H
    go_enter Try.func169,Try.ntmps169
    go_wp2_with (first|((with_reducible refine gate_callee (f:=173) rfl ?_);refine goesL_ (some 11) rfl rfl Try.func173 (by kernel_rfl) rfl #[.int .i64 a0,.int .i64 a1,.int .i64 a2] rfl ml ?_;(with_reducible refine (impl_two.calls a0 a1 a2 true _ A4.out).mono ?_);rintro e w' ⟨rfl,⟨nd,rfl⟩⟩;refine ⟨_,rfl,?_⟩));go_ret;exact ⟨by first|rfl|(simp;done)|(simp only [← hji7,← hji9] <;> (first|rfl|simp))|(simp [*];done),by repeat (first|exact Drawn0.refl _|apply Drawn0.step)⟩
   ·rw [if_neg c8] at H;exact absurd H (by simp)
  ·rw [if_neg c6] at H;have c6b0:(a2 == 0)=false:=beq_eq_false_iff_ne.mpr c6;have c6b1:(a2 != 0)=true:=bne_iff_ne.mpr c6;obtain rfl:=os H
   go_enter Try.func169,Try.ntmps169
   go_wp2_with (first|((with_reducible refine gate_callee (f:=173) rfl ?_);refine goesL_ (some 11) rfl rfl Try.func173 (by kernel_rfl) rfl #[.int .i64 a0,.int .i64 a1,.int .i64 a2] rfl ml ?_;(with_reducible refine (impl_two.calls a0 a1 a2 true _ A4.out).mono ?_);rintro e w' ⟨rfl,⟨nd,rfl⟩⟩;refine ⟨_,rfl,?_⟩));go_ret;exact ⟨e1,dn⟩
 ·replace c5:=Bool.eq_false_iff.mpr c5;subst c5
  have H1:(some 0)=some r:=by rw [if_neg (show ¬ (false=true) by decide)] at H;exact H
  clear H;have H:=H1;clear H1;obtain rfl:=os H
  go_enter Try.func169,Try.ntmps169
  go_wp2_with (first|((with_reducible refine gate_callee (f:=173) rfl ?_);refine goesL_ (some 11) rfl rfl Try.func173 (by kernel_rfl) rfl #[.int .i64 a0,.int .i64 a1,.int .i64 a2] rfl ml ?_;(with_reducible refine (impl_two.calls a0 a1 a2 false _ A4.out).mono ?_);rintro e w' ⟨rfl,⟨nd,rfl⟩⟩;refine ⟨_,rfl,?_⟩));go_ret;exact ⟨e1,dn⟩
def impl_Mul.f (a0:Int) (a1:Int) (a2:Int):Option (Int):=(impl_two.f a0 a1 a2).bind fun A1=>(if A1=true then ((impl_cut.f a0 (wrap64 (a1 * a2))).bind fun A0=>(some A0)) else (some 0))
set_option maxHeartbeats 8000000 in
set_option maxRecDepth 100000 in
theorem impl_Mul.calls (a0:Int) (a1:Int) (a2:Int) (r:Int) (w:World) (h:impl_Mul.f a0 a1 a2=some r) :
  Calls Try.prog 168 #[.int .i64 a0,.int .i64 a1,.int .i64 a2] w fun e w'=>e = .returned (.int .i64 r)∧Drawn0 w w':=by
 have H:((impl_two.f a0 a1 a2).bind fun A1=>(if A1=true then ((impl_cut.f a0 (wrap64 (a1 * a2))).bind fun A0=>(some A0)) else (some 0)))=some r:=h;clear h;replace H:=ob H;obtain ⟨A1,A40,H⟩:=H;replace H:(if A1=true then ((impl_cut.f a0 (wrap64 (a1 * a2))).bind fun A0=>(some A0)) else (some 0))=some r:=H;have A4:=Aside0.mk A40;clear A40
 by_cases c5:A1=true
 ·subst c5
  have H1:((impl_cut.f a0 (wrap64 (a1 * a2))).bind fun A0=>(some A0))=some r:=by rw [if_pos rfl] at H;exact H
  clear H;have H:=H1;clear H1;replace H:=ob H;obtain ⟨A0,A60,H⟩:=H;replace H:(some A0)=some r:=H;have A6:=Aside0.mk A60;clear A60;obtain rfl:=os H
  go_enter Try.func168,Try.ntmps168
  go_wp2_with (first|((with_reducible refine gate_callee (f:=173) rfl ?_);refine goesL_ (some 10) rfl rfl Try.func173 (by kernel_rfl) rfl #[.int .i64 a0,.int .i64 a1,.int .i64 a2] rfl ml ?_;(with_reducible refine (impl_two.calls a0 a1 a2 true _ A4.out).mono ?_);rintro e w' ⟨rfl,⟨nd,rfl⟩⟩;refine ⟨_,rfl,?_⟩)|((with_reducible refine gate_callee (f:=64) rfl ?_);refine goesL_ (some 16) rfl rfl Try.func64 (by kernel_rfl) rfl #[.int .i64 a0,.int .i64 (wrap64 (a1 * a2))] rfl ml ?_;(with_reducible refine (impl_cut.calls a0 (wrap64 (a1 * a2)) A0 _ A6.out).mono ?_);rintro e w' ⟨rfl,⟨nd,rfl⟩⟩;refine ⟨_,rfl,?_⟩));go_ret;exact ⟨e1,dn⟩
 ·replace c5:=Bool.eq_false_iff.mpr c5;subst c5
  have H1:(some 0)=some r:=by rw [if_neg (show ¬ (false=true) by decide)] at H;exact H
  clear H;have H:=H1;clear H1;obtain rfl:=os H
  go_enter Try.func168,Try.ntmps168
  go_wp2_with (first|((with_reducible refine gate_callee (f:=173) rfl ?_);refine goesL_ (some 10) rfl rfl Try.func173 (by kernel_rfl) rfl #[.int .i64 a0,.int .i64 a1,.int .i64 a2] rfl ml ?_;(with_reducible refine (impl_two.calls a0 a1 a2 false _ A4.out).mono ?_);rintro e w' ⟨rfl,⟨nd,rfl⟩⟩;refine ⟨_,rfl,?_⟩));go_ret;exact ⟨e1,dn⟩
def impl_Rem.f (a0:Int) (a1:Int) (a2:Int):Option (Int):=(impl_two.f a0 a1 a2).bind fun A0=>(if A0=true then (if a2=0 then (some a1) else (some (Int.tmod a1 a2))) else (some 0))
set_option maxHeartbeats 8000000 in
set_option maxRecDepth 100000 in
theorem impl_Rem.calls (a0:Int) (a1:Int) (a2:Int) (r:Int) (w:World) (h:impl_Rem.f a0 a1 a2=some r) :
  Calls Try.prog 170 #[.int .i64 a0,.int .i64 a1,.int .i64 a2] w fun e w'=>e = .returned (.int .i64 r)∧Drawn0 w w':=by
 have H:((impl_two.f a0 a1 a2).bind fun A0=>(if A0=true then (if a2=0 then (some a1) else (some (Int.tmod a1 a2))) else (some 0)))=some r:=h;clear h;replace H:=ob H;obtain ⟨A0,A40,H⟩:=H;replace H:(if A0=true then (if a2=0 then (some a1) else (some (Int.tmod a1 a2))) else (some 0))=some r:=H;have A4:=Aside0.mk A40;clear A40
 by_cases c5:A0=true
 ·subst c5
  have H1:(if a2=0 then (some a1) else (some (Int.tmod a1 a2)))=some r:=by rw [if_pos rfl] at H;exact H
  clear H;have H:=H1;clear H1
  by_cases c6:a2=0
  ·rw [if_pos c6] at H;have c6b0:(a2 == 0)=true:=beq_iff_eq.mpr c6;have c6b1:(a2 != 0)=false:=bne_eq_false_iff_eq.mpr c6;clear c6;obtain rfl:=os H
   go_enter Try.func170,Try.ntmps170
   go_wp2_with (first|((with_reducible refine gate_callee (f:=173) rfl ?_);refine goesL_ (some 11) rfl rfl Try.func173 (by kernel_rfl) rfl #[.int .i64 a0,.int .i64 a1,.int .i64 a2] rfl ml ?_;(with_reducible refine (impl_two.calls a0 a1 a2 true _ A4.out).mono ?_);rintro e w' ⟨rfl,⟨nd,rfl⟩⟩;refine ⟨_,rfl,?_⟩));go_ret;exact ⟨e1,dn⟩
  ·rw [if_neg c6] at H;have c6b0:(a2 == 0)=false:=beq_eq_false_iff_ne.mpr c6;have c6b1:(a2 != 0)=true:=bne_iff_ne.mpr c6;obtain rfl:=os H
   go_enter Try.func170,Try.ntmps170
   go_wp2_with (first|((with_reducible refine gate_callee (f:=173) rfl ?_);refine goesL_ (some 11) rfl rfl Try.func173 (by kernel_rfl) rfl #[.int .i64 a0,.int .i64 a1,.int .i64 a2] rfl ml ?_;(with_reducible refine (impl_two.calls a0 a1 a2 true _ A4.out).mono ?_);rintro e w' ⟨rfl,⟨nd,rfl⟩⟩;refine ⟨_,rfl,?_⟩));go_ret;exact ⟨e1,dn⟩
 ·replace c5:=Bool.eq_false_iff.mpr c5;subst c5
  have H1:(some 0)=some r:=by rw [if_neg (show ¬ (false=true) by decide)] at H;exact H
  clear H;have H:=H1;clear H1;obtain rfl:=os H
  go_enter Try.func170,Try.ntmps170
  go_wp2_with (first|((with_reducible refine gate_callee (f:=173) rfl ?_);refine goesL_ (some 11) rfl rfl Try.func173 (by kernel_rfl) rfl #[.int .i64 a0,.int .i64 a1,.int .i64 a2] rfl ml ?_;(with_reducible refine (impl_two.calls a0 a1 a2 false _ A4.out).mono ?_);rintro e w' ⟨rfl,⟨nd,rfl⟩⟩;refine ⟨_,rfl,?_⟩));go_ret;exact ⟨e1,dn⟩
def impl_Shl.f (a0:Int) (a1:Int) (a2:Int):Option (Int):=(impl_two.f a0 a1 a2).bind fun A1=>(if A1=true then (if a2 ≥ a0 then (some 0) else (if 0≤(IntKind.u64.wrap (a2)) then ((impl_cut.f a0 (shl .i64 a1 (IntKind.u64.wrap (a2)))).bind fun A0=>(some A0)) else (none))) else (some 0))
set_option maxHeartbeats 8000000 in
set_option maxRecDepth 100000 in
theorem impl_Shl.calls (a0:Int) (a1:Int) (a2:Int) (r:Int) (w:World) (h:impl_Shl.f a0 a1 a2=some r) :
  Calls Try.prog 171 #[.int .i64 a0,.int .i64 a1,.int .i64 a2] w fun e w'=>e = .returned (.int .i64 r)∧Drawn0 w w':=by
 have H:((impl_two.f a0 a1 a2).bind fun A1=>(if A1=true then (if a2 ≥ a0 then (some 0) else (if 0≤(IntKind.u64.wrap (a2)) then ((impl_cut.f a0 (shl .i64 a1 (IntKind.u64.wrap (a2)))).bind fun A0=>(some A0)) else (none))) else (some 0)))=some r:=h;clear h;replace H:=ob H;obtain ⟨A1,A40,H⟩:=H;replace H:(if A1=true then (if a2 ≥ a0 then (some 0) else (if 0≤(IntKind.u64.wrap (a2)) then ((impl_cut.f a0 (shl .i64 a1 (IntKind.u64.wrap (a2)))).bind fun A0=>(some A0)) else (none))) else (some 0))=some r:=H;have A4:=Aside0.mk A40;clear A40
 by_cases c5:A1=true
 ·subst c5
  have H1:(if a2 ≥ a0 then (some 0) else (if 0≤(IntKind.u64.wrap (a2)) then ((impl_cut.f a0 (shl .i64 a1 (IntKind.u64.wrap (a2)))).bind fun A0=>(some A0)) else (none)))=some r:=by rw [if_pos rfl] at H;exact H
  clear H;have H:=H1;clear H1
  by_cases c6:a2 ≥ a0
  ·rw [if_pos c6] at H;have c6b0:decide (a0≤a2)=true:=decide_eq_true c6;clear c6;obtain rfl:=os H
   go_enter Try.func171,Try.ntmps171
   go_wp2_with (first|((with_reducible refine gate_callee (f:=173) rfl ?_);refine goesL_ (some 10) rfl rfl Try.func173 (by kernel_rfl) rfl #[.int .i64 a0,.int .i64 a1,.int .i64 a2] rfl ml ?_;(with_reducible refine (impl_two.calls a0 a1 a2 true _ A4.out).mono ?_);rintro e w' ⟨rfl,⟨nd,rfl⟩⟩;refine ⟨_,rfl,?_⟩));go_ret;exact ⟨e1,dn⟩
  ·rw [if_neg c6] at H;have c6b0:decide (a0≤a2)=false:=decide_eq_false c6;clear c6;obtain ⟨ji7,hji7⟩:∃ j_:Int,(IntKind.u64.wrap (a2))=j_:=⟨_,rfl⟩
   replace H:(if 0≤(ji7) then ((impl_cut.f a0 (shl .i64 a1 (ji7))).bind fun A0=>(some A0)) else (none))=some r:=by first|(rw [hji7] at H;exact H)|(simp only [hji7] at H ⊢;exact H)
   (try rw [hji7] at A4)
   by_cases c8:0≤(ji7)
   ·rw [if_pos c8] at H;have c8b0:=eq_true c8;have c8b1:decide (0≤(ji7))=true:=decide_eq_true c8;clear c8;obtain ⟨ji9,hji9⟩:∃ j_:Int,(shl .i64 a1 (ji7))=j_:=⟨_,rfl⟩
    replace H:((impl_cut.f a0 (ji9)).bind fun A0=>(some A0))=some r:=by first|(rw [hji9] at H;exact H)|(simp only [hji9] at H ⊢;exact H)
    (try rw [hji9] at A4)
    have hji9_:(IntKind.i64.wrap (a1 * 2 ^ min (ji7).toNat 64))=ji9:=hji9;have hji9z:(ji7)≤64→(IntKind.i64.wrap (a1 * 2 ^ (ji7).toNat))=ji9:=shl_small hji9;have hji9y:(wrap64 (a1 * 2 ^ min (ji7).toNat 64))=ji9:=(i64_w _).symm.trans hji9_
    have hji9x:(ji7)≤64→(wrap64 (a1 * 2 ^ (ji7).toNat))=ji9:=fun h_=>(i64_w _).symm.trans (hji9z h_)
    replace H:=ob H;obtain ⟨A0,A100,H⟩:=H;replace H:(some A0)=some r:=H;have A10:=Aside0.mk A100;clear A100;obtain rfl:=os H
    go_enter Try.func171,Try.ntmps171
    go_wp2_with (first|((with_reducible refine gate_callee (f:=173) rfl ?_);refine goesL_ (some 10) rfl rfl Try.func173 (by kernel_rfl) rfl #[.int .i64 a0,.int .i64 a1,.int .i64 a2] rfl ml ?_;(with_reducible refine (impl_two.calls a0 a1 a2 true _ A4.out).mono ?_);rintro e w' ⟨rfl,⟨nd,rfl⟩⟩;refine ⟨_,rfl,?_⟩)|((with_reducible refine gate_callee (f:=64) rfl ?_);refine goesL_ (some 22) rfl rfl Try.func64 (by kernel_rfl) rfl #[.int .i64 a0,.int .i64 ji9] rfl (by (try simp only [List.map_toArray,List.map_cons,List.map_nil]);first|done|(simp only [hji9];rfl)|rfl|(simp only [List.length_drop,List.length_take];rfl)) ?_;(with_reducible refine (impl_cut.calls a0 ji9 A0 _ A10.out).mono ?_);rintro e w' ⟨rfl,⟨nd,rfl⟩⟩;refine ⟨_,rfl,?_⟩));go_ret;exact ⟨by first|rfl|(simp;done)|(simp only [← hji7,← hji9] <;> (first|rfl|simp))|(simp [*];done),by repeat (first|exact Drawn0.refl _|apply Drawn0.step)⟩
   ·rw [if_neg c8] at H;exact absurd H (by simp)
 ·replace c5:=Bool.eq_false_iff.mpr c5;subst c5
  have H1:(some 0)=some r:=by rw [if_neg (show ¬ (false=true) by decide)] at H;exact H
  clear H;have H:=H1;clear H1;obtain rfl:=os H
  go_enter Try.func171,Try.ntmps171
  go_wp2_with (first|((with_reducible refine gate_callee (f:=173) rfl ?_);refine goesL_ (some 10) rfl rfl Try.func173 (by kernel_rfl) rfl #[.int .i64 a0,.int .i64 a1,.int .i64 a2] rfl ml ?_;(with_reducible refine (impl_two.calls a0 a1 a2 false _ A4.out).mono ?_);rintro e w' ⟨rfl,⟨nd,rfl⟩⟩;refine ⟨_,rfl,?_⟩));go_ret;exact ⟨e1,dn⟩
def impl_Shr.f (a0:Int) (a1:Int) (a2:Int):Option (Int):=(impl_two.f a0 a1 a2).bind fun A0=>(if A0=true then (if a2 ≥ a0 then (some 0) else (if 0≤(IntKind.u64.wrap (a2)) then (some (shr .i64 a1 (IntKind.u64.wrap (a2)))) else (none))) else (some 0))
set_option maxHeartbeats 8000000 in
set_option maxRecDepth 100000 in
theorem impl_Shr.calls (a0:Int) (a1:Int) (a2:Int) (r:Int) (w:World) (h:impl_Shr.f a0 a1 a2=some r) :
  Calls Try.prog 172 #[.int .i64 a0,.int .i64 a1,.int .i64 a2] w fun e w'=>e = .returned (.int .i64 r)∧Drawn0 w w':=by
 have H:((impl_two.f a0 a1 a2).bind fun A0=>(if A0=true then (if a2 ≥ a0 then (some 0) else (if 0≤(IntKind.u64.wrap (a2)) then (some (shr .i64 a1 (IntKind.u64.wrap (a2)))) else (none))) else (some 0)))=some r:=h;clear h;replace H:=ob H;obtain ⟨A0,A40,H⟩:=H;replace H:(if A0=true then (if a2 ≥ a0 then (some 0) else (if 0≤(IntKind.u64.wrap (a2)) then (some (shr .i64 a1 (IntKind.u64.wrap (a2)))) else (none))) else (some 0))=some r:=H;have A4:=Aside0.mk A40;clear A40
 by_cases c5:A0=true
 ·subst c5
  have H1:(if a2 ≥ a0 then (some 0) else (if 0≤(IntKind.u64.wrap (a2)) then (some (shr .i64 a1 (IntKind.u64.wrap (a2)))) else (none)))=some r:=by rw [if_pos rfl] at H;exact H
  clear H;have H:=H1;clear H1
  by_cases c6:a2 ≥ a0
  ·rw [if_pos c6] at H;have c6b0:decide (a0≤a2)=true:=decide_eq_true c6;clear c6;obtain rfl:=os H
   go_enter Try.func172,Try.ntmps172
   go_wp2_with (first|((with_reducible refine gate_callee (f:=173) rfl ?_);refine goesL_ (some 10) rfl rfl Try.func173 (by kernel_rfl) rfl #[.int .i64 a0,.int .i64 a1,.int .i64 a2] rfl ml ?_;(with_reducible refine (impl_two.calls a0 a1 a2 true _ A4.out).mono ?_);rintro e w' ⟨rfl,⟨nd,rfl⟩⟩;refine ⟨_,rfl,?_⟩));go_ret;exact ⟨e1,dn⟩
  ·rw [if_neg c6] at H;have c6b0:decide (a0≤a2)=false:=decide_eq_false c6;clear c6;obtain ⟨ji7,hji7⟩:∃ j_:Int,(IntKind.u64.wrap (a2))=j_:=⟨_,rfl⟩
   replace H:(if 0≤(ji7) then (some (shr .i64 a1 (ji7))) else (none))=some r:=by first|(rw [hji7] at H;exact H)|(simp only [hji7] at H ⊢;exact H)
   (try rw [hji7] at A4)
   by_cases c8:0≤(ji7)
   ·rw [if_pos c8] at H;have c8b0:=eq_true c8;have c8b1:decide (0≤(ji7))=true:=decide_eq_true c8;clear c8;obtain ⟨ji9,hji9⟩:∃ j_:Int,(shr .i64 a1 (ji7))=j_:=⟨_,rfl⟩
    replace H:(some ji9)=some r:=by first|(rw [hji9] at H;exact H)|(simp only [hji9] at H ⊢;exact H)
    (try rw [hji9] at A4)
    have hji9_:(a1 / 2 ^ min (ji7).toNat 64)=ji9:=hji9;have hji9z:(ji7)≤64→(a1 / 2 ^ (ji7).toNat)=ji9:=shr_small hji9;obtain rfl:=os H
    go_enter Try.func172,Try.ntmps172
    go_wp2_with (first|((with_reducible refine gate_callee (f:=173) rfl ?_);refine goesL_ (some 10) rfl rfl Try.func173 (by kernel_rfl) rfl #[.int .i64 a0,.int .i64 a1,.int .i64 a2] rfl ml ?_;(with_reducible refine (impl_two.calls a0 a1 a2 true _ A4.out).mono ?_);rintro e w' ⟨rfl,⟨nd,rfl⟩⟩;refine ⟨_,rfl,?_⟩));go_ret;exact ⟨by first|rfl|(simp;done)|(simp only [← hji7,← hji9] <;> (first|rfl|simp))|(simp [*];done),by repeat (first|exact Drawn0.refl _|apply Drawn0.step)⟩
   ·rw [if_neg c8] at H;exact absurd H (by simp)
 ·replace c5:=Bool.eq_false_iff.mpr c5;subst c5
  have H1:(some 0)=some r:=by rw [if_neg (show ¬ (false=true) by decide)] at H;exact H
  clear H;have H:=H1;clear H1;obtain rfl:=os H
  go_enter Try.func172,Try.ntmps172
  go_wp2_with (first|((with_reducible refine gate_callee (f:=173) rfl ?_);refine goesL_ (some 10) rfl rfl Try.func173 (by kernel_rfl) rfl #[.int .i64 a0,.int .i64 a1,.int .i64 a2] rfl ml ?_;(with_reducible refine (impl_two.calls a0 a1 a2 false _ A4.out).mono ?_);rintro e w' ⟨rfl,⟨nd,rfl⟩⟩;refine ⟨_,rfl,?_⟩));go_ret;exact ⟨e1,dn⟩
def impl_Sub.f (a0:Int) (a1:Int) (a2:Int):Option (Int):=(impl_two.f a0 a1 a2).bind fun A1=>(if A1=true then ((impl_cut.f a0 (wrap64 (a1 - a2))).bind fun A0=>(some A0)) else (some 0))
set_option maxHeartbeats 8000000 in
set_option maxRecDepth 100000 in
theorem impl_Sub.calls (a0:Int) (a1:Int) (a2:Int) (r:Int) (w:World) (h:impl_Sub.f a0 a1 a2=some r) :
  Calls Try.prog 167 #[.int .i64 a0,.int .i64 a1,.int .i64 a2] w fun e w'=>e = .returned (.int .i64 r)∧Drawn0 w w':=by
 have H:((impl_two.f a0 a1 a2).bind fun A1=>(if A1=true then ((impl_cut.f a0 (wrap64 (a1 - a2))).bind fun A0=>(some A0)) else (some 0)))=some r:=h;clear h;replace H:=ob H;obtain ⟨A1,A40,H⟩:=H;replace H:(if A1=true then ((impl_cut.f a0 (wrap64 (a1 - a2))).bind fun A0=>(some A0)) else (some 0))=some r:=H;have A4:=Aside0.mk A40;clear A40
 by_cases c5:A1=true
 ·subst c5
  have H1:((impl_cut.f a0 (wrap64 (a1 - a2))).bind fun A0=>(some A0))=some r:=by rw [if_pos rfl] at H;exact H
  clear H;have H:=H1;clear H1;replace H:=ob H;obtain ⟨A0,A60,H⟩:=H;replace H:(some A0)=some r:=H;have A6:=Aside0.mk A60;clear A60;obtain rfl:=os H
  go_enter Try.func167,Try.ntmps167
  go_wp2_with (first|((with_reducible refine gate_callee (f:=173) rfl ?_);refine goesL_ (some 10) rfl rfl Try.func173 (by kernel_rfl) rfl #[.int .i64 a0,.int .i64 a1,.int .i64 a2] rfl ml ?_;(with_reducible refine (impl_two.calls a0 a1 a2 true _ A4.out).mono ?_);rintro e w' ⟨rfl,⟨nd,rfl⟩⟩;refine ⟨_,rfl,?_⟩)|((with_reducible refine gate_callee (f:=64) rfl ?_);refine goesL_ (some 16) rfl rfl Try.func64 (by kernel_rfl) rfl #[.int .i64 a0,.int .i64 (wrap64 (a1 - a2))] rfl ml ?_;(with_reducible refine (impl_cut.calls a0 (wrap64 (a1 - a2)) A0 _ A6.out).mono ?_);rintro e w' ⟨rfl,⟨nd,rfl⟩⟩;refine ⟨_,rfl,?_⟩));go_ret;exact ⟨e1,dn⟩
 ·replace c5:=Bool.eq_false_iff.mpr c5;subst c5
  have H1:(some 0)=some r:=by rw [if_neg (show ¬ (false=true) by decide)] at H;exact H
  clear H;have H:=H1;clear H1;obtain rfl:=os H
  go_enter Try.func167,Try.ntmps167
  go_wp2_with (first|((with_reducible refine gate_callee (f:=173) rfl ?_);refine goesL_ (some 10) rfl rfl Try.func173 (by kernel_rfl) rfl #[.int .i64 a0,.int .i64 a1,.int .i64 a2] rfl ml ?_;(with_reducible refine (impl_two.calls a0 a1 a2 false _ A4.out).mono ?_);rintro e w' ⟨rfl,⟨nd,rfl⟩⟩;refine ⟨_,rfl,?_⟩));go_ret;exact ⟨e1,dn⟩
def impl_binary.f (a0:Int) (a1:Int) (a2:Int) (a3:Int):Option (Int):=if a0=3 then (some (Go.bits .and .i64 a2 a3)) else (if a0=4 then (some (Go.bits .or .i64 a2 a3)) else (if a0=5 then (some (Go.bits .xor .i64 a2 a3)) else (if a0=6 then ((impl_Add.f a1 a2 a3).bind fun A0=>(some A0)) else (if a0=7 then ((impl_Sub.f a1 a2 a3).bind fun A1=>(some A1)) else (if a0=8 then ((impl_Mul.f a1 a2 a3).bind fun A2=>(some A2)) else (if a0=9 then ((impl_Div.f a1 a2 a3).bind fun A3=>(some A3)) else (if a0=10 then ((impl_Rem.f a1 a2 a3).bind fun A4=>(some A4)) else (if a0=11 then ((impl_Shl.f a1 a2 a3).bind fun A5=>(some A5)) else ((impl_Shr.f a1 a2 a3).bind fun A6=>(some A6))))))))))
set_option maxHeartbeats 8000000 in
set_option maxRecDepth 100000 in
theorem impl_binary.calls (a0:Int) (a1:Int) (a2:Int) (a3:Int) (r:Int) (w:World) (h:impl_binary.f a0 a1 a2 a3=some r) :
  Calls Try.prog 141 #[.int .i64 a0,.int .i64 a1,.int .i64 a2,.int .i64 a3] w fun e w'=>e = .returned (.int .i64 r)∧Drawn0 w w':=by
 have H:(if a0=3 then (some (Go.bits .and .i64 a2 a3)) else (if a0=4 then (some (Go.bits .or .i64 a2 a3)) else (if a0=5 then (some (Go.bits .xor .i64 a2 a3)) else (if a0=6 then ((impl_Add.f a1 a2 a3).bind fun A0=>(some A0)) else (if a0=7 then ((impl_Sub.f a1 a2 a3).bind fun A1=>(some A1)) else (if a0=8 then ((impl_Mul.f a1 a2 a3).bind fun A2=>(some A2)) else (if a0=9 then ((impl_Div.f a1 a2 a3).bind fun A3=>(some A3)) else (if a0=10 then ((impl_Rem.f a1 a2 a3).bind fun A4=>(some A4)) else (if a0=11 then ((impl_Shl.f a1 a2 a3).bind fun A5=>(some A5)) else ((impl_Shr.f a1 a2 a3).bind fun A6=>(some A6)))))))))))=some r:=h;clear h
 by_cases c5:a0=3
 ·rw [if_pos c5] at H;have c5b0:(a0 == 3)=true:=beq_iff_eq.mpr c5;have c5b1:(a0 != 3)=false:=bne_eq_false_iff_eq.mpr c5;clear c5;obtain rfl:=os H
  go_enter Try.func141,Try.ntmps141
  go_wp2;go_ret;exact ⟨e1,dn⟩
 ·rw [if_neg c5] at H;have c5b0:(a0 == 3)=false:=beq_eq_false_iff_ne.mpr c5;have c5b1:(a0 != 3)=true:=bne_iff_ne.mpr c5
  by_cases c6:a0=4
  ·rw [if_pos c6] at H;have c6b0:(a0 == 4)=true:=beq_iff_eq.mpr c6;have c6b1:(a0 != 4)=false:=bne_eq_false_iff_eq.mpr c6;clear c6;obtain rfl:=os H
   go_enter Try.func141,Try.ntmps141
   go_wp2;go_ret;exact ⟨e1,dn⟩
  ·rw [if_neg c6] at H;have c6b0:(a0 == 4)=false:=beq_eq_false_iff_ne.mpr c6;have c6b1:(a0 != 4)=true:=bne_iff_ne.mpr c6
   by_cases c7:a0=5
   ·rw [if_pos c7] at H;have c7b0:(a0 == 5)=true:=beq_iff_eq.mpr c7;have c7b1:(a0 != 5)=false:=bne_eq_false_iff_eq.mpr c7;clear c7;obtain rfl:=os H
    go_enter Try.func141,Try.ntmps141
    go_wp2;go_ret;exact ⟨e1,dn⟩
   ·rw [if_neg c7] at H;have c7b0:(a0 == 5)=false:=beq_eq_false_iff_ne.mpr c7;have c7b1:(a0 != 5)=true:=bne_iff_ne.mpr c7
    by_cases c8:a0=6
    ·rw [if_pos c8] at H;have c8b0:(a0 == 6)=true:=beq_iff_eq.mpr c8;have c8b1:(a0 != 6)=false:=bne_eq_false_iff_eq.mpr c8;clear c8;replace H:=ob H;obtain ⟨A0,A90,H⟩:=H;replace H:(some A0)=some r:=H;have A9:=Aside0.mk A90;clear A90;obtain rfl:=os H
     go_enter Try.func141,Try.ntmps141
     go_wp2_with (first|((with_reducible refine gate_callee (f:=166) rfl ?_);refine goesL_ (some 30) rfl rfl Try.func166 (by kernel_rfl) rfl #[.int .i64 a1,.int .i64 a2,.int .i64 a3] rfl ml ?_;(with_reducible refine (impl_Add.calls a1 a2 a3 A0 _ A9.out).mono ?_);rintro e w' ⟨rfl,⟨nd,rfl⟩⟩;refine ⟨_,rfl,?_⟩));go_ret;exact ⟨e1,dn⟩
    ·rw [if_neg c8] at H;have c8b0:(a0 == 6)=false:=beq_eq_false_iff_ne.mpr c8;have c8b1:(a0 != 6)=true:=bne_iff_ne.mpr c8
     by_cases c10:a0=7
     ·rw [if_pos c10] at H;have c10b0:(a0 == 7)=true:=beq_iff_eq.mpr c10;have c10b1:(a0 != 7)=false:=bne_eq_false_iff_eq.mpr c10;clear c10;replace H:=ob H;obtain ⟨A1,A110,H⟩:=H;replace H:(some A1)=some r:=H;have A11:=Aside0.mk A110;clear A110;obtain rfl:=os H
      go_enter Try.func141,Try.ntmps141
      go_wp2_with (first|((with_reducible refine gate_callee (f:=167) rfl ?_);refine goesL_ (some 36) rfl rfl Try.func167 (by kernel_rfl) rfl #[.int .i64 a1,.int .i64 a2,.int .i64 a3] rfl ml ?_;(with_reducible refine (impl_Sub.calls a1 a2 a3 A1 _ A11.out).mono ?_);rintro e w' ⟨rfl,⟨nd,rfl⟩⟩;refine ⟨_,rfl,?_⟩));go_ret;exact ⟨e1,dn⟩
     ·rw [if_neg c10] at H;have c10b0:(a0 == 7)=false:=beq_eq_false_iff_ne.mpr c10;have c10b1:(a0 != 7)=true:=bne_iff_ne.mpr c10
      by_cases c12:a0=8
      ·rw [if_pos c12] at H;have c12b0:(a0 == 8)=true:=beq_iff_eq.mpr c12;have c12b1:(a0 != 8)=false:=bne_eq_false_iff_eq.mpr c12;clear c12;replace H:=ob H;obtain ⟨A2,A130,H⟩:=H;replace H:(some A2)=some r:=H;have A13:=Aside0.mk A130;clear A130;obtain rfl:=os H
       go_enter Try.func141,Try.ntmps141
       go_wp2_with (first|((with_reducible refine gate_callee (f:=168) rfl ?_);refine goesL_ (some 42) rfl rfl Try.func168 (by kernel_rfl) rfl #[.int .i64 a1,.int .i64 a2,.int .i64 a3] rfl ml ?_;(with_reducible refine (impl_Mul.calls a1 a2 a3 A2 _ A13.out).mono ?_);rintro e w' ⟨rfl,⟨nd,rfl⟩⟩;refine ⟨_,rfl,?_⟩));go_ret;exact ⟨e1,dn⟩
      ·rw [if_neg c12] at H;have c12b0:(a0 == 8)=false:=beq_eq_false_iff_ne.mpr c12;have c12b1:(a0 != 8)=true:=bne_iff_ne.mpr c12
       by_cases c14:a0=9
       ·rw [if_pos c14] at H;have c14b0:(a0 == 9)=true:=beq_iff_eq.mpr c14;have c14b1:(a0 != 9)=false:=bne_eq_false_iff_eq.mpr c14;clear c14;replace H:=ob H;obtain ⟨A3,A150,H⟩:=H;replace H:(some A3)=some r:=H;have A15:=Aside0.mk A150;clear A150;obtain rfl:=os H
        go_enter Try.func141,Try.ntmps141
        go_wp2_with (first|((with_reducible refine gate_callee (f:=169) rfl ?_);refine goesL_ (some 48) rfl rfl Try.func169 (by kernel_rfl) rfl #[.int .i64 a1,.int .i64 a2,.int .i64 a3] rfl ml ?_;(with_reducible refine (impl_Div.calls a1 a2 a3 A3 _ A15.out).mono ?_);rintro e w' ⟨rfl,⟨nd,rfl⟩⟩;refine ⟨_,rfl,?_⟩));go_ret;exact ⟨e1,dn⟩
       ·rw [if_neg c14] at H;have c14b0:(a0 == 9)=false:=beq_eq_false_iff_ne.mpr c14;have c14b1:(a0 != 9)=true:=bne_iff_ne.mpr c14
        by_cases c16:a0=10
        ·rw [if_pos c16] at H;have c16b0:(a0 == 10)=true:=beq_iff_eq.mpr c16;have c16b1:(a0 != 10)=false:=bne_eq_false_iff_eq.mpr c16;clear c16;replace H:=ob H;obtain ⟨A4,A170,H⟩:=H;replace H:(some A4)=some r:=H;have A17:=Aside0.mk A170;clear A170;obtain rfl:=os H
         go_enter Try.func141,Try.ntmps141
         go_wp2_with (first|((with_reducible refine gate_callee (f:=170) rfl ?_);refine goesL_ (some 54) rfl rfl Try.func170 (by kernel_rfl) rfl #[.int .i64 a1,.int .i64 a2,.int .i64 a3] rfl ml ?_;(with_reducible refine (impl_Rem.calls a1 a2 a3 A4 _ A17.out).mono ?_);rintro e w' ⟨rfl,⟨nd,rfl⟩⟩;refine ⟨_,rfl,?_⟩));go_ret;exact ⟨e1,dn⟩
        ·rw [if_neg c16] at H;have c16b0:(a0 == 10)=false:=beq_eq_false_iff_ne.mpr c16;have c16b1:(a0 != 10)=true:=bne_iff_ne.mpr c16
         by_cases c18:a0=11
         ·rw [if_pos c18] at H;have c18b0:(a0 == 11)=true:=beq_iff_eq.mpr c18;have c18b1:(a0 != 11)=false:=bne_eq_false_iff_eq.mpr c18;clear c18;replace H:=ob H;obtain ⟨A5,A190,H⟩:=H;replace H:(some A5)=some r:=H;have A19:=Aside0.mk A190;clear A190;obtain rfl:=os H
          go_enter Try.func141,Try.ntmps141
          go_wp2_with (first|((with_reducible refine gate_callee (f:=171) rfl ?_);refine goesL_ (some 60) rfl rfl Try.func171 (by kernel_rfl) rfl #[.int .i64 a1,.int .i64 a2,.int .i64 a3] rfl ml ?_;(with_reducible refine (impl_Shl.calls a1 a2 a3 A5 _ A19.out).mono ?_);rintro e w' ⟨rfl,⟨nd,rfl⟩⟩;refine ⟨_,rfl,?_⟩));go_ret;exact ⟨e1,dn⟩
         ·rw [if_neg c18] at H;have c18b0:(a0 == 11)=false:=beq_eq_false_iff_ne.mpr c18;have c18b1:(a0 != 11)=true:=bne_iff_ne.mpr c18;replace H:=ob H;obtain ⟨A6,A200,H⟩:=H;replace H:(some A6)=some r:=H;have A20:=Aside0.mk A200;clear A200;obtain rfl:=os H
          go_enter Try.func141,Try.ntmps141
          go_wp2_with (first|((with_reducible refine gate_callee (f:=172) rfl ?_);refine goesL_ (some 64) rfl rfl Try.func172 (by kernel_rfl) rfl #[.int .i64 a1,.int .i64 a2,.int .i64 a3] rfl ml ?_;(with_reducible refine (impl_Shr.calls a1 a2 a3 A6 _ A20.out).mono ?_);rintro e w' ⟨rfl,⟨nd,rfl⟩⟩;refine ⟨_,rfl,?_⟩));go_ret;exact ⟨e1,dn⟩
def impl_isByte.f (a0:Int):Option (Bool):=(impl_within.f a0 0 255).bind fun A0=>(some A0)
set_option maxHeartbeats 8000000 in
set_option maxRecDepth 100000 in
theorem impl_isByte.calls (a0:Int) (r:Bool) (w:World) (h:impl_isByte.f a0=some r) :
  Calls Try.prog 139 #[.int .i64 a0] w fun e w'=>e = .returned (.bool r)∧Drawn0 w w':=by
 have H:((impl_within.f a0 0 255).bind fun A0=>(some A0))=some r:=h;clear h;replace H:=ob H;obtain ⟨A0,A20,H⟩:=H;replace H:(some A0)=some r:=H;have A2:=Aside0.mk A20;clear A20;obtain rfl:=os H
 go_enter Try.func139,Try.ntmps139
 go_wp2_with (first|((with_reducible refine gate_callee (f:=61) rfl ?_);refine goesL_ (some 4) rfl rfl Try.func61 (by kernel_rfl) rfl #[.int .i64 a0,.int .i64 0,.int .i64 255] rfl ml ?_;(with_reducible refine (impl_within.calls a0 0 255 A0 _ A2.out).mono ?_);rintro e w' ⟨rfl,⟨nd,rfl⟩⟩;refine ⟨_,rfl,?_⟩));go_ret;exact ⟨e1,dn⟩
mutual
def impl_Apply.j0:Nat→Int→Int→Int→Int→Bool→Int→Int→Int→Int→Int→Int→Option (Int)
 | 0,_,_,_,_,_,_,_,_,_,_,_=>none
 | k + 1,x1,x2,x3,x4,x34,x102000,x102001,x102002,x102003,x102004,x102005=>if x34=true then (some 0) else (if x102000=0 then (some x102002) else (if x102000=2 then ((impl_Flip.f x102001 x2).bind fun Ak=>(some Ak)) else ((impl_within.f x102000 3 12).bind fun Al=>(if Al=true then ((impl_binary.f x102000 x102001 x2 x3).bind fun Ac=>(some Ac)) else (if x102000=13 then ((impl_bit.f (x2 == x3)).bind fun Ad=>(some Ad)) else (if x102000=14 then ((impl_Less.f x1 x2 x3).bind fun Ae=>(some Ae)) else (if x102000=15 then ((impl_LessSigned.f x1 x2 x3).bind fun Af=>(some Af)) else (if x102000=16 then (impl_Apply.j1 k x1 x2 x3 x4 (decide (x102001 < x1)) x102000 x102001 x102002 x102003 x102004 x102005) else (impl_Apply.j1 k x1 x2 x3 x4 false x102000 x102001 x102002 x102003 x102004 x102005)))))))))
def impl_Apply.j1:Nat→Int→Int→Int→Int→Bool→Int→Int→Int→Int→Int→Int→Option (Int)
 | 0,_,_,_,_,_,_,_,_,_,_,_=>none
 | k + 1,x1,x2,x3,x4,x84,x102000,x102001,x102002,x102003,x102004,x102005=>if x84=true then (some x3) else (if x102000=16 then (if 0≤(IntKind.u64.wrap (wrap64 (x102001 - x1))) then (some (wrap64 ((shl .i64 x2 (IntKind.u64.wrap (wrap64 (x102001 - x1)))) + x3))) else (none)) else (if x102000=17 then ((impl_Slice.f x1 x2 x102002 x102001).bind fun Am=>(some Am)) else (if x102000=18 then (impl_Apply.j2 k x3 x4 (x2 == 1) x102000 x102001 x102002 x102003 x102004 x102005) else (impl_Apply.j2 k x3 x4 false x102000 x102001 x102002 x102003 x102004 x102005))))
def impl_Apply.j2:Nat→Int→Int→Bool→Int→Int→Int→Int→Int→Int→Option (Int)
 | 0,_,_,_,_,_,_,_,_,_=>none
 | k + 1,x3,x4,x119,x102000,x102001,x102002,x102003,x102004,x102005=>if x119=true then (some x3) else (if x102000=18 then (some x4) else (some 0))
end
def impl_Apply.f (k:Nat) (A0:Int) (A1:Int) (A3:Int) (A4:Int) (A5:Int) (A6:Int) (a1:Int) (a2:Int) (a3:Int) (a4:Int):Option (Int):=(impl_isWidth.f A1).bind fun An=>(if An=true then ((impl_isWidth.f a1).bind fun Ag=>(if Ag=true then ((impl_isByte.f a2).bind fun Aa=>(if Aa=true then ((impl_isByte.f a3).bind fun A9=>(if A9=true then ((impl_isByte.f a4).bind fun A7=>(impl_Apply.j0 k a1 a2 a3 a4 (!A7) A0 A1 A3 A4 A5 A6)) else (impl_Apply.j0 k a1 a2 a3 a4 true A0 A1 A3 A4 A5 A6))) else (impl_Apply.j0 k a1 a2 a3 a4 true A0 A1 A3 A4 A5 A6))) else (impl_Apply.j0 k a1 a2 a3 a4 true A0 A1 A3 A4 A5 A6))) else (impl_Apply.j0 k a1 a2 a3 a4 true A0 A1 A3 A4 A5 A6))
set_option maxHeartbeats 8000000 in
set_option maxRecDepth 100000 in
theorem impl_Apply.calls (k:Nat) (A0:Int) (A1:Int) (A3:Int) (A4:Int) (A5:Int) (A6:Int) (a1:Int) (a2:Int) (a3:Int) (a4:Int) (r:Int) (w:World) (h:impl_Apply.f k A0 A1 A3 A4 A5 A6 a1 a2 a3 a4=some r) :
  Calls Try.prog 126 #[.agg #[.int .i64 A0,.int .i64 A1,.int .i64 A3,.int .i64 A4,.int .i64 A5,.int .i64 A6],.int .i64 a1,.int .i64 a2,.int .i64 a3,.int .i64 a4] w fun e w'=>e = .returned (.int .i64 r)∧Below w.heap.size w w':=by
 have hu99:=Try.underlying99;have HB:=Aside0.mk (Below.refl w.heap.size w);have H:((impl_isWidth.f A1).bind fun An=>(if An=true then ((impl_isWidth.f a1).bind fun Ag=>(if Ag=true then ((impl_isByte.f a2).bind fun Aa=>(if Aa=true then ((impl_isByte.f a3).bind fun A9=>(if A9=true then ((impl_isByte.f a4).bind fun A7=>(impl_Apply.j0 k a1 a2 a3 a4 (!A7) A0 A1 A3 A4 A5 A6)) else (impl_Apply.j0 k a1 a2 a3 a4 true A0 A1 A3 A4 A5 A6))) else (impl_Apply.j0 k a1 a2 a3 a4 true A0 A1 A3 A4 A5 A6))) else (impl_Apply.j0 k a1 a2 a3 a4 true A0 A1 A3 A4 A5 A6))) else (impl_Apply.j0 k a1 a2 a3 a4 true A0 A1 A3 A4 A5 A6)))=some r:=h;clear h;have HC6:=Aside0.mk H;clear H
 go_enter Try.func126,Try.ntmps126
 go_upto_region 1 with (first|((with_reducible refine gate_dst (N:=5) rfl ?_);refine bx (N:=5) (cs:=#[.int .i64 A0,.int .i64 A1,.int .i64 A3,.int .i64 A4,.int .i64 A5,.int .i64 A6]) (t:=99) ?_;intro Ai hg w7 hbox hb;have A2:=Aside0.mk (hbox);have GW101:=Aside0.mk ((by rw [hg];exact (below_size (tb HB)):w.heap.size≤Ai));have GE101:=Aside0.mk ((by rw [hg];exact (below_size (tb HB)):w.heap.size≤Ai));replace HB:=Aside0.mk (below_step (tb HB) hb);clear hb hbox hg))
 (try simp only [Act.put,List.setIfInBounds_toArray,List.set_cons_zero,List.set_cons_succ])
 go_cut [34] (fun v34 wc=>∃ (kq:Nat) (Aj:Bool),v34 = .bool Aj∧Aside0 (impl_Apply.j0 kq a1 a2 a3 a4 Aj A0 A1 A3 A4 A5 A6=some r)∧Aside0 (kq≤k)∧Aside0 (wc.heap[Ai]? = some (.cells #[.int .i64 A0,.int .i64 A1,.int .i64 A3,.int .i64 A4,.int .i64 A5,.int .i64 A6] 99 (0,0)))∧Aside0 (Below w.heap.size w wc))
 case first =>
  have H:=HC6.out;clear HC6;replace H:=ob H;obtain ⟨An,A80,H⟩:=H;replace H:(if An=true then ((impl_isWidth.f a1).bind fun Ag=>(if Ag=true then ((impl_isByte.f a2).bind fun Aa=>(if Aa=true then ((impl_isByte.f a3).bind fun A9=>(if A9=true then ((impl_isByte.f a4).bind fun A7=>(impl_Apply.j0 k a1 a2 a3 a4 (!A7) A0 A1 A3 A4 A5 A6)) else (impl_Apply.j0 k a1 a2 a3 a4 true A0 A1 A3 A4 A5 A6))) else (impl_Apply.j0 k a1 a2 a3 a4 true A0 A1 A3 A4 A5 A6))) else (impl_Apply.j0 k a1 a2 a3 a4 true A0 A1 A3 A4 A5 A6))) else (impl_Apply.j0 k a1 a2 a3 a4 true A0 A1 A3 A4 A5 A6))=some r:=H;have A8:=Aside0.mk A80;clear A80
  by_cases c9:An=true
  ·subst c9
   have H1:((impl_isWidth.f a1).bind fun Ag=>(if Ag=true then ((impl_isByte.f a2).bind fun Aa=>(if Aa=true then ((impl_isByte.f a3).bind fun A9=>(if A9=true then ((impl_isByte.f a4).bind fun A7=>(impl_Apply.j0 k a1 a2 a3 a4 (!A7) A0 A1 A3 A4 A5 A6)) else (impl_Apply.j0 k a1 a2 a3 a4 true A0 A1 A3 A4 A5 A6))) else (impl_Apply.j0 k a1 a2 a3 a4 true A0 A1 A3 A4 A5 A6))) else (impl_Apply.j0 k a1 a2 a3 a4 true A0 A1 A3 A4 A5 A6)))=some r:=by rw [if_pos rfl] at H;exact H
   clear H;have H:=H1;clear H1;replace H:=ob H;obtain ⟨Ag,A100,H⟩:=H;replace H:(if Ag=true then ((impl_isByte.f a2).bind fun Aa=>(if Aa=true then ((impl_isByte.f a3).bind fun A9=>(if A9=true then ((impl_isByte.f a4).bind fun A7=>(impl_Apply.j0 k a1 a2 a3 a4 (!A7) A0 A1 A3 A4 A5 A6)) else (impl_Apply.j0 k a1 a2 a3 a4 true A0 A1 A3 A4 A5 A6))) else (impl_Apply.j0 k a1 a2 a3 a4 true A0 A1 A3 A4 A5 A6))) else (impl_Apply.j0 k a1 a2 a3 a4 true A0 A1 A3 A4 A5 A6))=some r:=H;have A10:=Aside0.mk A100;clear A100
   by_cases c11:Ag=true
   ·subst c11
    have H1:((impl_isByte.f a2).bind fun Aa=>(if Aa=true then ((impl_isByte.f a3).bind fun A9=>(if A9=true then ((impl_isByte.f a4).bind fun A7=>(impl_Apply.j0 k a1 a2 a3 a4 (!A7) A0 A1 A3 A4 A5 A6)) else (impl_Apply.j0 k a1 a2 a3 a4 true A0 A1 A3 A4 A5 A6))) else (impl_Apply.j0 k a1 a2 a3 a4 true A0 A1 A3 A4 A5 A6)))=some r:=by rw [if_pos rfl] at H;exact H
    clear H;have H:=H1;clear H1;replace H:=ob H;obtain ⟨Aa,A120,H⟩:=H;replace H:(if Aa=true then ((impl_isByte.f a3).bind fun A9=>(if A9=true then ((impl_isByte.f a4).bind fun A7=>(impl_Apply.j0 k a1 a2 a3 a4 (!A7) A0 A1 A3 A4 A5 A6)) else (impl_Apply.j0 k a1 a2 a3 a4 true A0 A1 A3 A4 A5 A6))) else (impl_Apply.j0 k a1 a2 a3 a4 true A0 A1 A3 A4 A5 A6))=some r:=H;have A12:=Aside0.mk A120;clear A120
    by_cases c13:Aa=true
    ·subst c13
     have H1:((impl_isByte.f a3).bind fun A9=>(if A9=true then ((impl_isByte.f a4).bind fun A7=>(impl_Apply.j0 k a1 a2 a3 a4 (!A7) A0 A1 A3 A4 A5 A6)) else (impl_Apply.j0 k a1 a2 a3 a4 true A0 A1 A3 A4 A5 A6)))=some r:=by rw [if_pos rfl] at H;exact H
     clear H;have H:=H1;clear H1;replace H:=ob H;obtain ⟨A9,A140,H⟩:=H;replace H:(if A9=true then ((impl_isByte.f a4).bind fun A7=>(impl_Apply.j0 k a1 a2 a3 a4 (!A7) A0 A1 A3 A4 A5 A6)) else (impl_Apply.j0 k a1 a2 a3 a4 true A0 A1 A3 A4 A5 A6))=some r:=H;have A14:=Aside0.mk A140;clear A140
     by_cases c15:A9=true
     ·subst c15
      have H1:((impl_isByte.f a4).bind fun A7=>(impl_Apply.j0 k a1 a2 a3 a4 (!A7) A0 A1 A3 A4 A5 A6))=some r:=by rw [if_pos rfl] at H;exact H
      clear H;have H:=H1;clear H1;replace H:=ob H;obtain ⟨A7,A160,H⟩:=H;replace H:(impl_Apply.j0 k a1 a2 a3 a4 (!A7) A0 A1 A3 A4 A5 A6)=some r:=H;have A16:=Aside0.mk A160;clear A160;have H':=Aside0.mk H;clear H;have hcz17__:=c6_ A2;have hfz17__:=f_ A2;go_wp2_with (first|((with_reducible refine gate_callee (f:=119) rfl ?_);refine goesL_ (some 13) rfl rfl Try.func119 (by kernel_rfl) rfl #[.int .i64 A1] rfl ml ?_;(with_reducible refine (impl_isWidth.calls A1 true _ A8.out).mono ?_);rintro e w' ⟨rfl,⟨nd,rfl⟩⟩;refine ⟨_,rfl,?_⟩)|(go_at_call 119;(try simp only [i64_w,i32_w]);(with_reducible refine (impl_isWidth.calls a1 true _ A10.out).mono ?_);rintro e w' ⟨rfl,⟨nd,rfl⟩⟩)|(go_at_call 139;(try simp only [i64_w,i32_w]);(with_reducible refine (impl_isByte.calls a2 true _ A12.out).mono ?_);rintro e w' ⟨rfl,⟨nd,rfl⟩⟩)|(go_at_call 139;(try simp only [i64_w,i32_w]);(with_reducible refine (impl_isByte.calls a3 true _ A14.out).mono ?_);rintro e w' ⟨rfl,⟨nd,rfl⟩⟩)|(go_at_call 139;(try simp only [i64_w,i32_w]);(with_reducible refine (impl_isByte.calls a4 A7 _ A16.out).mono ?_);rintro e w' ⟨rfl,⟨nd,rfl⟩⟩));go_meet
      case rel=>exact ⟨_,(!A7),(by first|rfl|(simp;done)|(simp [*];done)),H',⟨by first|omega|exact Nat.le_refl _⟩,⟨dr A2⟩,⟨by exact tb HB⟩⟩
     ·replace c15:=Bool.eq_false_iff.mpr c15;subst c15
      have H1:(impl_Apply.j0 k a1 a2 a3 a4 true A0 A1 A3 A4 A5 A6)=some r:=by rw [if_neg (show ¬ (false=true) by decide)] at H;exact H
      clear H;have H:=H1;clear H1;have H':=Aside0.mk H;clear H;have hcz18__:=c6_ A2;have hfz18__:=f_ A2;go_wp2_with (first|((with_reducible refine gate_callee (f:=119) rfl ?_);refine goesL_ (some 13) rfl rfl Try.func119 (by kernel_rfl) rfl #[.int .i64 A1] rfl ml ?_;(with_reducible refine (impl_isWidth.calls A1 true _ A8.out).mono ?_);rintro e w' ⟨rfl,⟨nd,rfl⟩⟩;refine ⟨_,rfl,?_⟩)|(go_at_call 119;(try simp only [i64_w,i32_w]);(with_reducible refine (impl_isWidth.calls a1 true _ A10.out).mono ?_);rintro e w' ⟨rfl,⟨nd,rfl⟩⟩)|(go_at_call 139;(try simp only [i64_w,i32_w]);(with_reducible refine (impl_isByte.calls a2 true _ A12.out).mono ?_);rintro e w' ⟨rfl,⟨nd,rfl⟩⟩)|(go_at_call 139;(try simp only [i64_w,i32_w]);(with_reducible refine (impl_isByte.calls a3 false _ A14.out).mono ?_);rintro e w' ⟨rfl,⟨nd,rfl⟩⟩));go_meet
      case rel=>exact ⟨_,(true),(by first|rfl|(simp;done)|(simp [*];done)),H',⟨by first|omega|exact Nat.le_refl _⟩,⟨dr A2⟩,⟨by exact tb HB⟩⟩
    ·replace c13:=Bool.eq_false_iff.mpr c13;subst c13
     have H1:(impl_Apply.j0 k a1 a2 a3 a4 true A0 A1 A3 A4 A5 A6)=some r:=by rw [if_neg (show ¬ (false=true) by decide)] at H;exact H
     clear H;have H:=H1;clear H1;have H':=Aside0.mk H;clear H;have hcz19__:=c6_ A2;have hfz19__:=f_ A2;go_wp2_with (first|((with_reducible refine gate_callee (f:=119) rfl ?_);refine goesL_ (some 13) rfl rfl Try.func119 (by kernel_rfl) rfl #[.int .i64 A1] rfl ml ?_;(with_reducible refine (impl_isWidth.calls A1 true _ A8.out).mono ?_);rintro e w' ⟨rfl,⟨nd,rfl⟩⟩;refine ⟨_,rfl,?_⟩)|(go_at_call 119;(try simp only [i64_w,i32_w]);(with_reducible refine (impl_isWidth.calls a1 true _ A10.out).mono ?_);rintro e w' ⟨rfl,⟨nd,rfl⟩⟩)|(go_at_call 139;(try simp only [i64_w,i32_w]);(with_reducible refine (impl_isByte.calls a2 false _ A12.out).mono ?_);rintro e w' ⟨rfl,⟨nd,rfl⟩⟩));go_meet
     case rel=>exact ⟨_,(true),(by first|rfl|(simp;done)|(simp [*];done)),H',⟨by first|omega|exact Nat.le_refl _⟩,⟨dr A2⟩,⟨by exact tb HB⟩⟩
   ·replace c11:=Bool.eq_false_iff.mpr c11;subst c11
    have H1:(impl_Apply.j0 k a1 a2 a3 a4 true A0 A1 A3 A4 A5 A6)=some r:=by rw [if_neg (show ¬ (false=true) by decide)] at H;exact H
    clear H;have H:=H1;clear H1;have H':=Aside0.mk H;clear H;have hcz20__:=c6_ A2;have hfz20__:=f_ A2;go_wp2_with (first|((with_reducible refine gate_callee (f:=119) rfl ?_);refine goesL_ (some 13) rfl rfl Try.func119 (by kernel_rfl) rfl #[.int .i64 A1] rfl ml ?_;(with_reducible refine (impl_isWidth.calls A1 true _ A8.out).mono ?_);rintro e w' ⟨rfl,⟨nd,rfl⟩⟩;refine ⟨_,rfl,?_⟩)|(go_at_call 119;(try simp only [i64_w,i32_w]);(with_reducible refine (impl_isWidth.calls a1 false _ A10.out).mono ?_);rintro e w' ⟨rfl,⟨nd,rfl⟩⟩));go_meet
    case rel=>exact ⟨_,(true),(by first|rfl|(simp;done)|(simp [*];done)),H',⟨by first|omega|exact Nat.le_refl _⟩,⟨dr A2⟩,⟨by exact tb HB⟩⟩
  ·replace c9:=Bool.eq_false_iff.mpr c9;subst c9
   have H1:(impl_Apply.j0 k a1 a2 a3 a4 true A0 A1 A3 A4 A5 A6)=some r:=by rw [if_neg (show ¬ (false=true) by decide)] at H;exact H
   clear H;have H:=H1;clear H1;have H':=Aside0.mk H;clear H;have hcz21__:=c6_ A2;have hfz21__:=f_ A2;go_wp2_with (first|((with_reducible refine gate_callee (f:=119) rfl ?_);refine goesL_ (some 13) rfl rfl Try.func119 (by kernel_rfl) rfl #[.int .i64 A1] rfl ml ?_;(with_reducible refine (impl_isWidth.calls A1 false _ A8.out).mono ?_);rintro e w' ⟨rfl,⟨nd,rfl⟩⟩;refine ⟨_,rfl,?_⟩));go_meet
   case rel=>exact ⟨_,(true),(by first|rfl|(simp;done)|(simp [*];done)),H',⟨by first|omega|exact Nat.le_refl _⟩,⟨dr A2⟩,⟨by exact tb HB⟩⟩
 case rest =>
  clear HC6;(try clear c1);(try clear p2);(try clear c9);(try clear c11);(try clear c12);(try clear c13);(try clear c15);(try clear hcz17__);(try clear hcz18__);(try clear hcz19__);(try clear hcz20__);(try clear hcz21__);(try clear hfz17__);(try clear hfz18__);(try clear hfz19__);(try clear hfz20__);(try clear hfz21__);obtain ⟨kq,Aj,rfl,HA,HJ5,A2,HB⟩:=hcut
  cases kq with
  | zero=>exact absurd HA.out (by simp [impl_Apply.j0])
  | succ kj5 =>
   have H:=HA.out;clear HA;simp only [impl_Apply.j0] at H
   by_cases c22:Aj=true
   ·subst c22
    have H1:(some 0)=some r:=by rw [if_pos rfl] at H;exact H
    clear H;have H:=H1;clear H1;obtain rfl:=os H;go_wp2;go_ret;exact ⟨er,tb HB⟩
   ·replace c22:=Bool.eq_false_iff.mpr c22;subst c22
    have H1:(if A0=0 then (some A3) else (if A0=2 then ((impl_Flip.f A1 a2).bind fun Ak=>(some Ak)) else ((impl_within.f A0 3 12).bind fun Al=>(if Al=true then ((impl_binary.f A0 A1 a2 a3).bind fun Ac=>(some Ac)) else (if A0=13 then ((impl_bit.f (a2 == a3)).bind fun Ad=>(some Ad)) else (if A0=14 then ((impl_Less.f a1 a2 a3).bind fun Ae=>(some Ae)) else (if A0=15 then ((impl_LessSigned.f a1 a2 a3).bind fun Af=>(some Af)) else (if A0=16 then (impl_Apply.j1 kj5 a1 a2 a3 a4 (decide (A1 < a1)) A0 A1 A3 A4 A5 A6) else (impl_Apply.j1 kj5 a1 a2 a3 a4 false A0 A1 A3 A4 A5 A6)))))))))=some r:=by rw [if_neg (show ¬ (false=true) by decide)] at H;exact H
    clear H;have H:=H1;clear H1
    by_cases c23:A0=0
    ·rw [if_pos c23] at H;have c23b0:(A0 == 0)=true:=beq_iff_eq.mpr c23;have c23b1:(A0 != 0)=false:=bne_eq_false_iff_eq.mpr c23;clear c23;obtain rfl:=os H;have hcz24__:=c6_ A2;have hfz24__:=f_ A2;go_wp2;go_ret;exact ⟨er,tb HB⟩
    ·rw [if_neg c23] at H;have c23b0:(A0 == 0)=false:=beq_eq_false_iff_ne.mpr c23;have c23b1:(A0 != 0)=true:=bne_iff_ne.mpr c23
     by_cases c25:A0=2
     ·rw [if_pos c25] at H;have c25b0:(A0 == 2)=true:=beq_iff_eq.mpr c25;have c25b1:(A0 != 2)=false:=bne_eq_false_iff_eq.mpr c25;clear c25;replace H:=ob H;obtain ⟨Ak,A260,H⟩:=H;replace H:(some Ak)=some r:=H;have A26:=Aside0.mk A260;clear A260;obtain rfl:=os H;have hcz27__:=c6_ A2;have hfz27__:=f_ A2;go_wp2_with (first|((with_reducible refine gate_callee (f:=140) rfl ?_);refine goesL_ (some 48) rfl rfl Try.func140 (by kernel_rfl) rfl #[.int .i64 A1,.int .i64 a2] rfl ml ?_;(with_reducible refine (impl_Flip.calls A1 a2 Ak _ A26.out).mono ?_);rintro e w' ⟨rfl,⟨nd,rfl⟩⟩;refine ⟨_,rfl,?_⟩));go_ret;exact ⟨er,tb HB⟩
     ·rw [if_neg c25] at H;have c25b0:(A0 == 2)=false:=beq_eq_false_iff_ne.mpr c25;have c25b1:(A0 != 2)=true:=bne_iff_ne.mpr c25;replace H:=ob H;obtain ⟨Al,A280,H⟩:=H;replace H:(if Al=true then ((impl_binary.f A0 A1 a2 a3).bind fun Ac=>(some Ac)) else (if A0=13 then ((impl_bit.f (a2 == a3)).bind fun Ad=>(some Ad)) else (if A0=14 then ((impl_Less.f a1 a2 a3).bind fun Ae=>(some Ae)) else (if A0=15 then ((impl_LessSigned.f a1 a2 a3).bind fun Af=>(some Af)) else (if A0=16 then (impl_Apply.j1 kj5 a1 a2 a3 a4 (decide (A1 < a1)) A0 A1 A3 A4 A5 A6) else (impl_Apply.j1 kj5 a1 a2 a3 a4 false A0 A1 A3 A4 A5 A6))))))=some r:=H;have A28:=Aside0.mk A280;clear A280
      by_cases c29:Al=true
      ·subst c29
       have H1:((impl_binary.f A0 A1 a2 a3).bind fun Ac=>(some Ac))=some r:=by rw [if_pos rfl] at H;exact H
       clear H;have H:=H1;clear H1;replace H:=ob H;obtain ⟨Ac,A300,H⟩:=H;replace H:(some Ac)=some r:=H;have A30:=Aside0.mk A300;clear A300;obtain rfl:=os H;have hcz31__:=c6_ A2;have hfz31__:=f_ A2;go_wp2_with (first|((with_reducible refine gate_callee (f:=61) rfl ?_);refine goesL_ (some 52) rfl rfl Try.func61 (by kernel_rfl) rfl #[.int .i64 A0,.int .i64 3,.int .i64 12] rfl ml ?_;(with_reducible refine (impl_within.calls A0 3 12 true _ A28.out).mono ?_);rintro e w' ⟨rfl,⟨nd,rfl⟩⟩;refine ⟨_,rfl,?_⟩)|((with_reducible refine gate_callee (f:=141) rfl ?_);refine goesL_ (some 59) rfl rfl Try.func141 (by kernel_rfl) rfl #[.int .i64 A0,.int .i64 A1,.int .i64 a2,.int .i64 a3] rfl ml ?_;(with_reducible refine (impl_binary.calls A0 A1 a2 a3 Ac _ A30.out).mono ?_);rintro e w' ⟨rfl,⟨nd,rfl⟩⟩;refine ⟨_,rfl,?_⟩));go_ret;exact ⟨er,tb HB⟩
      ·replace c29:=Bool.eq_false_iff.mpr c29;subst c29
       have H1:(if A0=13 then ((impl_bit.f (a2 == a3)).bind fun Ad=>(some Ad)) else (if A0=14 then ((impl_Less.f a1 a2 a3).bind fun Ae=>(some Ae)) else (if A0=15 then ((impl_LessSigned.f a1 a2 a3).bind fun Af=>(some Af)) else (if A0=16 then (impl_Apply.j1 kj5 a1 a2 a3 a4 (decide (A1 < a1)) A0 A1 A3 A4 A5 A6) else (impl_Apply.j1 kj5 a1 a2 a3 a4 false A0 A1 A3 A4 A5 A6)))))=some r:=by rw [if_neg (show ¬ (false=true) by decide)] at H;exact H
       clear H;have H:=H1;clear H1
       by_cases c32:A0=13
       ·rw [if_pos c32] at H;have c32b0:(A0 == 13)=true:=beq_iff_eq.mpr c32;have c32b1:(A0 != 13)=false:=bne_eq_false_iff_eq.mpr c32;clear c32;replace H:=ob H;obtain ⟨Ad,A330,H⟩:=H;replace H:(some Ad)=some r:=H;have A33:=Aside0.mk A330;clear A330;obtain rfl:=os H;have hcz34__:=c6_ A2;have hfz34__:=f_ A2;go_wp2_with (first|((with_reducible refine gate_callee (f:=61) rfl ?_);refine goesL_ (some 52) rfl rfl Try.func61 (by kernel_rfl) rfl #[.int .i64 A0,.int .i64 3,.int .i64 12] rfl ml ?_;(with_reducible refine (impl_within.calls A0 3 12 false _ A28.out).mono ?_);rintro e w' ⟨rfl,⟨nd,rfl⟩⟩;refine ⟨_,rfl,?_⟩)|((with_reducible refine gate_callee (f:=111) rfl ?_);refine goesL_ (some 67) rfl rfl Try.func111 (by kernel_rfl) rfl #[.bool (a2 == a3)] rfl ml ?_;(with_reducible refine (impl_bit.calls (a2 == a3) Ad _ A33.out).mono ?_);rintro e w' ⟨rfl,⟨nd,rfl⟩⟩;refine ⟨_,rfl,?_⟩));go_ret;exact ⟨er,tb HB⟩
       ·rw [if_neg c32] at H;have c32b0:(A0 == 13)=false:=beq_eq_false_iff_ne.mpr c32;have c32b1:(A0 != 13)=true:=bne_iff_ne.mpr c32
        by_cases c35:A0=14
        ·rw [if_pos c35] at H;have c35b0:(A0 == 14)=true:=beq_iff_eq.mpr c35;have c35b1:(A0 != 14)=false:=bne_eq_false_iff_eq.mpr c35;clear c35;replace H:=ob H;obtain ⟨Ae,A360,H⟩:=H;replace H:(some Ae)=some r:=H;have A36:=Aside0.mk A360;clear A360;obtain rfl:=os H;have hcz37__:=c6_ A2;have hfz37__:=f_ A2;go_wp2_with (first|((with_reducible refine gate_callee (f:=61) rfl ?_);refine goesL_ (some 52) rfl rfl Try.func61 (by kernel_rfl) rfl #[.int .i64 A0,.int .i64 3,.int .i64 12] rfl ml ?_;(with_reducible refine (impl_within.calls A0 3 12 false _ A28.out).mono ?_);rintro e w' ⟨rfl,⟨nd,rfl⟩⟩;refine ⟨_,rfl,?_⟩)|((with_reducible refine gate_callee (f:=142) rfl ?_);refine goesL_ (some 75) rfl rfl Try.func142 (by kernel_rfl) rfl #[.int .i64 a1,.int .i64 a2,.int .i64 a3] rfl ml ?_;(with_reducible refine (impl_Less.calls a1 a2 a3 Ae _ A36.out).mono ?_);rintro e w' ⟨rfl,⟨nd,rfl⟩⟩;refine ⟨_,rfl,?_⟩));go_ret;exact ⟨er,tb HB⟩
        ·rw [if_neg c35] at H;have c35b0:(A0 == 14)=false:=beq_eq_false_iff_ne.mpr c35;have c35b1:(A0 != 14)=true:=bne_iff_ne.mpr c35
         by_cases c38:A0=15
         ·rw [if_pos c38] at H;have c38b0:(A0 == 15)=true:=beq_iff_eq.mpr c38;have c38b1:(A0 != 15)=false:=bne_eq_false_iff_eq.mpr c38;clear c38;replace H:=ob H;obtain ⟨Af,A390,H⟩:=H;replace H:(some Af)=some r:=H;have A39:=Aside0.mk A390;clear A390;obtain rfl:=os H;have hcz40__:=c6_ A2;have hfz40__:=f_ A2;go_wp2_with (first|((with_reducible refine gate_callee (f:=61) rfl ?_);refine goesL_ (some 52) rfl rfl Try.func61 (by kernel_rfl) rfl #[.int .i64 A0,.int .i64 3,.int .i64 12] rfl ml ?_;(with_reducible refine (impl_within.calls A0 3 12 false _ A28.out).mono ?_);rintro e w' ⟨rfl,⟨nd,rfl⟩⟩;refine ⟨_,rfl,?_⟩)|((with_reducible refine gate_callee (f:=143) rfl ?_);refine goesL_ (some 83) rfl rfl Try.func143 (by kernel_rfl) rfl #[.int .i64 a1,.int .i64 a2,.int .i64 a3] rfl ml ?_;(with_reducible refine (impl_LessSigned.calls a1 a2 a3 Af _ A39.out).mono ?_);rintro e w' ⟨rfl,⟨nd,rfl⟩⟩;refine ⟨_,rfl,?_⟩));go_ret;exact ⟨er,tb HB⟩
         ·rw [if_neg c38] at H;have c38b0:(A0 == 15)=false:=beq_eq_false_iff_ne.mpr c38;have c38b1:(A0 != 15)=true:=bne_iff_ne.mpr c38;have HC41:=Aside0.mk H;clear H;have hcz42__:=c6_ A2;have hfz42__:=f_ A2
          go_upto_region 15 with (first|((with_reducible refine gate_callee (f:=61) rfl ?_);refine goesL_ (some 52) rfl rfl Try.func61 (by kernel_rfl) rfl #[.int .i64 A0,.int .i64 3,.int .i64 12] rfl ml ?_;(with_reducible refine (impl_within.calls A0 3 12 false _ A28.out).mono ?_);rintro e w' ⟨rfl,⟨nd,rfl⟩⟩;refine ⟨_,rfl,?_⟩))
          (try simp only [Act.put,List.setIfInBounds_toArray,List.set_cons_zero,List.set_cons_succ])
          go_cut [84] (fun v84 wc=>∃ (kq:Nat) (Ah:Bool),v84 = .bool Ah∧Aside0 (impl_Apply.j1 kq a1 a2 a3 a4 Ah A0 A1 A3 A4 A5 A6=some r)∧Aside0 (kq≤kj5)∧Aside0 (wc.heap[Ai]? = some (.cells #[.int .i64 A0,.int .i64 A1,.int .i64 A3,.int .i64 A4,.int .i64 A5,.int .i64 A6] 99 (0,0)))∧Aside0 (Below w.heap.size w wc))
          case first =>
           have H:=HC41.out;clear HC41
           by_cases c43:A0=16
           ·rw [if_pos c43] at H;have c43b0:(A0 == 16)=true:=beq_iff_eq.mpr c43;have c43b1:(A0 != 16)=false:=bne_eq_false_iff_eq.mpr c43;clear c43;(first|rw [c43b0]|(simp only [i64_w,i32_w];rw [c43b0])|skip);have H':=Aside0.mk H;clear H;have hcz44__:=c6_ A2;have hfz44__:=f_ A2;go_wp2;go_meet
            case rel=>exact ⟨_,(decide (A1 < a1)),(by first|rfl|(simp;done)|(simp [*];done)),H',⟨by have:=HJ5.out;first|omega|exact Nat.le_refl _⟩,⟨dr A2⟩,⟨by exact tb HB⟩⟩
           ·rw [if_neg c43] at H;have c43b0:(A0 == 16)=false:=beq_eq_false_iff_ne.mpr c43;have c43b1:(A0 != 16)=true:=bne_iff_ne.mpr c43;(first|rw [c43b0]|(simp only [i64_w,i32_w];rw [c43b0])|skip);have H':=Aside0.mk H;clear H;have hcz45__:=c6_ A2;have hfz45__:=f_ A2;go_wp2;go_meet
            case rel=>exact ⟨_,(false),(by first|rfl|(simp;done)|(simp [*];done)),H',⟨by have:=HJ5.out;first|omega|exact Nat.le_refl _⟩,⟨dr A2⟩,⟨by exact tb HB⟩⟩
          case rest =>
           clear HC41;(try clear c1);(try clear c2);(try clear p2);(try clear c3);(try clear c4);(try clear c6);(try clear c9);(try clear c11);(try clear c12);(try clear c13);(try clear c14);(try clear c15);(try clear c22);(try clear c23);(try clear c23b0);(try clear c23b1);(try clear c25);(try clear c25b0);(try clear c25b1);(try clear c29);(try clear c32);(try clear c32b0);(try clear c32b1);(try clear c35);(try clear c35b0);(try clear c35b1);(try clear c38);(try clear c38b0);(try clear c38b1);(try clear c43);(try clear c43b0);(try clear c43b1);(try clear hcz17__);(try clear hcz18__);(try clear hcz19__);(try clear hcz20__);(try clear hcz21__);(try clear hcz24__);(try clear hcz27__);(try clear hcz31__);(try clear hcz34__);(try clear hcz37__);(try clear hcz40__);(try clear hcz42__);(try clear hcz44__);(try clear hcz45__);(try clear hfz17__);(try clear hfz18__);(try clear hfz19__);(try clear hfz20__);(try clear hfz21__);(try clear hfz24__);(try clear hfz27__);(try clear hfz31__);(try clear hfz34__);(try clear hfz37__);(try clear hfz40__);(try clear hfz42__);(try clear hfz44__);(try clear hfz45__);(try clear p2);obtain ⟨kq,Ah,rfl,HA,HJ40,A2,HB⟩:=hcut
           cases kq with
           | zero=>exact absurd HA.out (by simp [impl_Apply.j1])
           | succ kj40 =>
            have H:=HA.out;clear HA;simp only [impl_Apply.j1] at H
            by_cases c46:Ah=true
            ·subst c46
             have H1:(some a3)=some r:=by rw [if_pos rfl] at H;exact H
             clear H;have H:=H1;clear H1;obtain rfl:=os H;go_wp2;go_ret;exact ⟨er,tb HB⟩
            ·replace c46:=Bool.eq_false_iff.mpr c46;subst c46
             have H1:(if A0=16 then (if 0≤(IntKind.u64.wrap (wrap64 (A1 - a1))) then (some (wrap64 ((shl .i64 a2 (IntKind.u64.wrap (wrap64 (A1 - a1)))) + a3))) else (none)) else (if A0=17 then ((impl_Slice.f a1 a2 A3 A1).bind fun Am=>(some Am)) else (if A0=18 then (impl_Apply.j2 kj40 a3 a4 (a2 == 1) A0 A1 A3 A4 A5 A6) else (impl_Apply.j2 kj40 a3 a4 false A0 A1 A3 A4 A5 A6))))=some r:=by rw [if_neg (show ¬ (false=true) by decide)] at H;exact H
             clear H;have H:=H1;clear H1
             by_cases c47:A0=16
             ·rw [if_pos c47] at H;have c47b0:(A0 == 16)=true:=beq_iff_eq.mpr c47;have c47b1:(A0 != 16)=false:=bne_eq_false_iff_eq.mpr c47;clear c47;obtain ⟨ji48,hji48⟩:∃ j_:Int,(IntKind.u64.wrap (wrap64 (A1 - a1)))=j_:=⟨_,rfl⟩
              replace H:(if 0≤(ji48) then (some (wrap64 ((shl .i64 a2 (ji48)) + a3))) else (none))=some r:=by first|(rw [hji48] at H;exact H)|(simp only [hji48] at H ⊢;exact H)
              by_cases c49:0≤(ji48)
              ·rw [if_pos c49] at H;have c49b0:=eq_true c49;have c49b1:decide (0≤(ji48))=true:=decide_eq_true c49;clear c49;obtain ⟨ji50,hji50⟩:∃ j_:Int,(shl .i64 a2 (ji48))=j_:=⟨_,rfl⟩
               replace H:(some (wrap64 ((ji50) + a3)))=some r:=by first|(rw [hji50] at H;exact H)|(simp only [hji50] at H ⊢;exact H)
               have hji50_:(IntKind.i64.wrap (a2 * 2 ^ min (ji48).toNat 64))=ji50:=hji50;have hji50z:(ji48)≤64→(IntKind.i64.wrap (a2 * 2 ^ (ji48).toNat))=ji50:=shl_small hji50;have hji50y:(wrap64 (a2 * 2 ^ min (ji48).toNat 64))=ji50:=(i64_w _).symm.trans hji50_
               have hji50x:(ji48)≤64→(wrap64 (a2 * 2 ^ (ji48).toNat))=ji50:=fun h_=>(i64_w _).symm.trans (hji50z h_)
               obtain rfl:=os H;have hcz51__:=c6_ A2;have hfz51__:=f_ A2;go_wp2;go_ret;exact ⟨by first|rfl|(simp [errW_none,errW_some] <;> rfl)|(simp only [← hji48,← hji50];first|rfl|(simp [errW_none,errW_some] <;> rfl))|(simp [*,errW_none,errW_some] <;> rfl),tb HB⟩
              ·rw [if_neg c49] at H;exact absurd H (by simp)
             ·rw [if_neg c47] at H;have c47b0:(A0 == 16)=false:=beq_eq_false_iff_ne.mpr c47;have c47b1:(A0 != 16)=true:=bne_iff_ne.mpr c47
              by_cases c52:A0=17
              ·rw [if_pos c52] at H;have c52b0:(A0 == 17)=true:=beq_iff_eq.mpr c52;have c52b1:(A0 != 17)=false:=bne_eq_false_iff_eq.mpr c52;clear c52;replace H:=ob H;obtain ⟨Am,A530,H⟩:=H;replace H:(some Am)=some r:=H;have A53:=Aside0.mk A530;clear A530;obtain rfl:=os H;have hcz54__:=c6_ A2;have hfz54__:=f_ A2;go_wp2_with (first|((with_reducible refine gate_callee (f:=144) rfl ?_);refine goesL_ (some 118) rfl rfl Try.func144 (by kernel_rfl) rfl #[.int .i64 a1,.int .i64 a2,.int .i64 A3,.int .i64 A1] rfl ml ?_;(with_reducible refine (impl_Slice.calls a1 a2 A3 A1 Am _ A53.out).mono ?_);rintro e w' ⟨rfl,⟨nd,rfl⟩⟩;refine ⟨_,rfl,?_⟩));go_ret;exact ⟨er,tb HB⟩
              ·rw [if_neg c52] at H;have c52b0:(A0 == 17)=false:=beq_eq_false_iff_ne.mpr c52;have c52b1:(A0 != 17)=true:=bne_iff_ne.mpr c52;have HC55:=Aside0.mk H;clear H;have hcz56__:=c6_ A2;have hfz56__:=f_ A2
               go_upto_region 21 with (fail)
               go_cut [119] (fun v119 wc=>∃ (kq:Nat) (Ab:Bool),v119 = .bool Ab∧Aside0 (impl_Apply.j2 kq a3 a4 Ab A0 A1 A3 A4 A5 A6=some r)∧Aside0 (kq≤kj40)∧Aside0 (wc.heap[Ai]? = some (.cells #[.int .i64 A0,.int .i64 A1,.int .i64 A3,.int .i64 A4,.int .i64 A5,.int .i64 A6] 99 (0,0)))∧Aside0 (Below w.heap.size w wc))
               case first =>
                have H:=HC55.out;clear HC55
                by_cases c57:A0=18
                ·rw [if_pos c57] at H;have c57b0:(A0 == 18)=true:=beq_iff_eq.mpr c57;have c57b1:(A0 != 18)=false:=bne_eq_false_iff_eq.mpr c57;clear c57;(first|rw [c57b0]|(simp only [i64_w,i32_w];rw [c57b0])|skip);have H':=Aside0.mk H;clear H;have hcz58__:=c6_ A2;have hfz58__:=f_ A2;go_wp2;go_meet
                 case rel=>exact ⟨_,((a2 == 1)),(by first|rfl|(simp;done)|(simp [*];done)),(by first|exact H'|(rw [hji50];exact H')),⟨by have:=HJ5.out;have:=HJ40.out;first|omega|exact Nat.le_refl _⟩,⟨dr A2⟩,⟨by exact tb HB⟩⟩
                ·rw [if_neg c57] at H;have c57b0:(A0 == 18)=false:=beq_eq_false_iff_ne.mpr c57;have c57b1:(A0 != 18)=true:=bne_iff_ne.mpr c57;(first|rw [c57b0]|(simp only [i64_w,i32_w];rw [c57b0])|skip);have H':=Aside0.mk H;clear H;have hcz59__:=c6_ A2;have hfz59__:=f_ A2;go_wp2;go_meet
                 case rel=>exact ⟨_,(false),(by first|rfl|(simp;done)|(simp [*];done)),(by first|exact H'|(rw [hji50];exact H')),⟨by have:=HJ5.out;have:=HJ40.out;first|omega|exact Nat.le_refl _⟩,⟨dr A2⟩,⟨by exact tb HB⟩⟩
               case rest =>
                clear HC55;(try clear c1);(try clear c2);(try clear p2);(try clear c3);(try clear c4);(try clear c5);(try clear c6);(try clear p6);(try clear c9);(try clear c11);(try clear c12);(try clear c13);(try clear c14);(try clear c15);(try clear c22);(try clear c23);(try clear c23b0);(try clear c23b1);(try clear c25);(try clear c25b0);(try clear c25b1);(try clear c29);(try clear c32);(try clear c32b0);(try clear c32b1);(try clear c35);(try clear c35b0);(try clear c35b1);(try clear c38);(try clear c38b0);(try clear c38b1);(try clear c43);(try clear c43b0);(try clear c43b1);(try clear c46);(try clear c47);(try clear c47b0);(try clear c47b1);(try clear c49);(try clear c49b0);(try clear c49b1);(try clear c52);(try clear c52b0);(try clear c52b1);(try clear c57);(try clear c57b0);(try clear c57b1);(try clear hcz17__);(try clear hcz18__);(try clear hcz19__);(try clear hcz20__);(try clear hcz21__);(try clear hcz24__);(try clear hcz27__);(try clear hcz31__);(try clear hcz34__);(try clear hcz37__);(try clear hcz40__);(try clear hcz42__);(try clear hcz44__);(try clear hcz45__);(try clear hcz51__);(try clear hcz54__);(try clear hcz56__);(try clear hcz58__);(try clear hcz59__);(try clear hfz17__);(try clear hfz18__);(try clear hfz19__);(try clear hfz20__);(try clear hfz21__);(try clear hfz24__);(try clear hfz27__);(try clear hfz31__);(try clear hfz34__);(try clear hfz37__);(try clear hfz40__);(try clear hfz42__);(try clear hfz44__);(try clear hfz45__);(try clear hfz51__);(try clear hfz54__);(try clear hfz56__);(try clear hfz58__);(try clear hfz59__);(try clear p2);obtain ⟨kq,Ab,rfl,HA,HJ54,A2,HB⟩:=hcut
                cases kq with
                | zero=>exact absurd HA.out (by simp [impl_Apply.j2])
                | succ kj54 =>
                 have H:=HA.out;clear HA;simp only [impl_Apply.j2] at H
                 by_cases c60:Ab=true
                 ·subst c60
                  have H1:(some a3)=some r:=by rw [if_pos rfl] at H;exact H
                  clear H;have H:=H1;clear H1;obtain rfl:=os H;go_wp2;go_ret;exact ⟨er,tb HB⟩
                 ·replace c60:=Bool.eq_false_iff.mpr c60;subst c60
                  have H1:(if A0=18 then (some a4) else (some 0))=some r:=by rw [if_neg (show ¬ (false=true) by decide)] at H;exact H
                  clear H;have H:=H1;clear H1
                  by_cases c61:A0=18
                  ·rw [if_pos c61] at H;have c61b0:(A0 == 18)=true:=beq_iff_eq.mpr c61;have c61b1:(A0 != 18)=false:=bne_eq_false_iff_eq.mpr c61;clear c61;obtain rfl:=os H;have hcz62__:=c6_ A2;have hfz62__:=f_ A2;go_wp2;go_ret;exact ⟨er,tb HB⟩
                  ·rw [if_neg c61] at H;have c61b0:(A0 == 18)=false:=beq_eq_false_iff_ne.mpr c61;have c61b1:(A0 != 18)=true:=bne_iff_ne.mpr c61;obtain rfl:=os H;have hcz63__:=c6_ A2;have hfz63__:=f_ A2;go_wp2;go_ret;exact ⟨er,tb HB⟩
def impl_isQuant.f (A0:Int) (A3:Int) (A4:Int) (A5:Int) (A6:Int) (A7:Int):Option (Bool):=if A0=19 then (some true) else (some (A0 == 20))
set_option maxHeartbeats 8000000 in
set_option maxRecDepth 100000 in
theorem impl_isQuant.calls (A0:Int) (A3:Int) (A4:Int) (A5:Int) (A6:Int) (A7:Int) (r:Bool) (w:World) (h:impl_isQuant.f A0 A3 A4 A5 A6 A7=some r) :
  Calls Try.prog 123 #[.agg #[.int .i64 A0,.int .i64 A3,.int .i64 A4,.int .i64 A5,.int .i64 A6,.int .i64 A7]] w fun e w'=>e = .returned (.bool r)∧Below w.heap.size w w':=by
 have hu99:=Try.underlying99;have HB:=Aside0.mk (Below.refl w.heap.size w);have H:(if A0=19 then (some true) else (some (A0 == 20)))=some r:=h;clear h
 by_cases c2:A0=19
 ·rw [if_pos c2] at H;have c2b0:(A0 == 19)=true:=beq_iff_eq.mpr c2;have c2b1:(A0 != 19)=false:=bne_eq_false_iff_eq.mpr c2;clear c2;obtain rfl:=os H
  go_enter Try.func123,Try.ntmps123
  go_wp2_with (first|((with_reducible refine gate_dst (N:=1) rfl ?_);refine bx (N:=1) (cs:=#[.int .i64 A0,.int .i64 A3,.int .i64 A4,.int .i64 A5,.int .i64 A6,.int .i64 A7]) (t:=99) ?_;intro A1 hg w3 hbox hb;have A2:=Aside0.mk (hbox);have A8:=Aside0.mk ((by rw [hg];exact (below_size (tb HB)):w.heap.size≤A1));have A9:=Aside0.mk ((by rw [hg];exact (below_size (tb HB)):w.heap.size≤A1));replace HB:=Aside0.mk (below_step (tb HB) hb);clear hb hbox hg;have hcz4__:=c6_ A2;have hfz4__:=f_ A2));go_ret;exact ⟨er,tb HB⟩
 ·rw [if_neg c2] at H;have c2b0:(A0 == 19)=false:=beq_eq_false_iff_ne.mpr c2;have c2b1:(A0 != 19)=true:=bne_iff_ne.mpr c2;obtain rfl:=os H
  go_enter Try.func123,Try.ntmps123
  go_wp2_with (first|((with_reducible refine gate_dst (N:=1) rfl ?_);refine bx (N:=1) (cs:=#[.int .i64 A0,.int .i64 A3,.int .i64 A4,.int .i64 A5,.int .i64 A6,.int .i64 A7]) (t:=99) ?_;intro A1 hg w5 hbox hb;have A2:=Aside0.mk (hbox);have A8:=Aside0.mk ((by rw [hg];exact (below_size (tb HB)):w.heap.size≤A1));have A9:=Aside0.mk ((by rw [hg];exact (below_size (tb HB)):w.heap.size≤A1));replace HB:=Aside0.mk (below_step (tb HB) hb);clear hb hbox hg;have hcz6__:=c6_ A2;have hfz6__:=f_ A2));go_ret;exact ⟨er,tb HB⟩
def impl_Parts.j0:Nat→Bool→Int→Int→Int→Int→Int→Int→Option (List Int)
 | 0,_,_,_,_,_,_,_=>none
 | k + 1,x3,x102000,x102001,x102002,x102003,x102004,x102005=>if x3=true then (some (([x102003]:List Int))) else ((impl_within.f x102000 3 16).bind fun Aa=>(if Aa=true then (some (([x102003,x102004]:List Int))) else (if x102000=18 then (some (([x102003,x102004,x102005]:List Int))) else (some (([]:List Int))))))
def impl_Parts.f (k:Nat) (A0:Int) (A5:Int) (A6:Int) (A1:Int) (A3:Int) (A4:Int):Option (List Int):=if A0=2 then (impl_Parts.j0 k true A0 A5 A6 A1 A3 A4) else (if A0=17 then (impl_Parts.j0 k true A0 A5 A6 A1 A3 A4) else ((impl_isQuant.f A0 A5 A6 A1 A3 A4).bind fun A9=>(impl_Parts.j0 k A9 A0 A5 A6 A1 A3 A4)))
set_option maxHeartbeats 8000000 in
set_option maxRecDepth 100000 in
theorem impl_Parts.calls (k:Nat) (A0:Int) (A5:Int) (A6:Int) (A1:Int) (A3:Int) (A4:Int) (r:List Int) (w:World) (h:impl_Parts.f k A0 A5 A6 A1 A3 A4=some r) :
  Calls Try.prog 125 #[.agg #[.int .i64 A0,.int .i64 A5,.int .i64 A6,.int .i64 A1,.int .i64 A3,.int .i64 A4]] w fun e w'=>∃ v0_:Value,e = .returned (v0_)∧Kd.R (Kd.int .i64) 3 w' w.heap.size (fun _=>True) v0_ r∧Below w.heap.size w w':=by
 have hu99:=Try.underlying99;have HB:=Aside0.mk (Below.refl w.heap.size w);have H:(if A0=2 then (impl_Parts.j0 k true A0 A5 A6 A1 A3 A4) else (if A0=17 then (impl_Parts.j0 k true A0 A5 A6 A1 A3 A4) else ((impl_isQuant.f A0 A5 A6 A1 A3 A4).bind fun A9=>(impl_Parts.j0 k A9 A0 A5 A6 A1 A3 A4))))=some r:=h;clear h;have HC2:=Aside0.mk H;clear H
 go_enter Try.func125,Try.ntmps125
 go_upto_region 1 with (first|((with_reducible refine gate_dst (N:=1) rfl ?_);refine bx (N:=1) (cs:=#[.int .i64 A0,.int .i64 A5,.int .i64 A6,.int .i64 A1,.int .i64 A3,.int .i64 A4]) (t:=99) ?_;intro A7 hg w3 hbox hb;have A2:=Aside0.mk (hbox);have GW101:=Aside0.mk ((by rw [hg];exact (below_size (tb HB)):w.heap.size≤A7));have GE101:=Aside0.mk ((by rw [hg];exact (below_size (tb HB)):w.heap.size≤A7));replace HB:=Aside0.mk (below_step (tb HB) hb);clear hb hbox hg))
 (try simp only [Act.put,List.setIfInBounds_toArray,List.set_cons_zero,List.set_cons_succ])
 go_cut [3] (fun v3 wc=>∃ (kq:Nat) (Ab:Bool),v3 = .bool Ab∧Aside0 (impl_Parts.j0 kq Ab A0 A5 A6 A1 A3 A4=some r)∧Aside0 (kq≤k)∧Aside0 (wc.heap[A7]? = some (.cells #[.int .i64 A0,.int .i64 A5,.int .i64 A6,.int .i64 A1,.int .i64 A3,.int .i64 A4] 99 (0,0)))∧Aside0 (Below w.heap.size w wc))
 case first =>
  have H:=HC2.out;clear HC2
  by_cases c4:A0=2
  ·rw [if_pos c4] at H;have c4b0:(A0 == 2)=true:=beq_iff_eq.mpr c4;have c4b1:(A0 != 2)=false:=bne_eq_false_iff_eq.mpr c4;clear c4;(first|rw [c4b0]|(simp only [i64_w,i32_w];rw [c4b0])|skip);have H':=Aside0.mk H;clear H;have hcz5__:=c6_ A2;have hfz5__:=f_ A2;go_wp2;go_meet
   case rel=>exact ⟨_,(true),(by first|rfl|(simp;done)|(simp [*];done)),H',⟨by first|omega|exact Nat.le_refl _⟩,⟨dr A2⟩,⟨by exact tb HB⟩⟩
  ·rw [if_neg c4] at H;have c4b0:(A0 == 2)=false:=beq_eq_false_iff_ne.mpr c4;have c4b1:(A0 != 2)=true:=bne_iff_ne.mpr c4;(first|rw [c4b0]|(simp only [i64_w,i32_w];rw [c4b0])|skip)
   by_cases c6:A0=17
   ·rw [if_pos c6] at H;have c6b0:(A0 == 17)=true:=beq_iff_eq.mpr c6;have c6b1:(A0 != 17)=false:=bne_eq_false_iff_eq.mpr c6;clear c6;have H':=Aside0.mk H;clear H;have hcz7__:=c6_ A2;have hfz7__:=f_ A2;go_wp2;go_meet
    case rel=>exact ⟨_,(true),(by first|rfl|(simp;done)|(simp [*];done)),H',⟨by first|omega|exact Nat.le_refl _⟩,⟨dr A2⟩,⟨by exact tb HB⟩⟩
   ·rw [if_neg c6] at H;have c6b0:(A0 == 17)=false:=beq_eq_false_iff_ne.mpr c6;have c6b1:(A0 != 17)=true:=bne_iff_ne.mpr c6;replace H:=ob H;obtain ⟨A9,A80,H⟩:=H;replace H:(impl_Parts.j0 k A9 A0 A5 A6 A1 A3 A4)=some r:=H;have A8:=Aside0.mk A80;clear A80;have H':=Aside0.mk H;clear H;have hcz9__:=c6_ A2;have hfz9__:=f_ A2;go_wp2_with (first|(go_at_call 123;(try simp only [i64_w,i32_w]);(with_reducible refine (impl_isQuant.calls A0 A5 A6 A1 A3 A4 A9 _ A8.out).mono ?_);rintro e w10 ⟨rfl,hb⟩;replace A2:=Aside0.mk (blk_below (g:=A7) (o := .cells #[.int .i64 A0,.int .i64 A5,.int .i64 A6,.int .i64 A1,.int .i64 A3,.int .i64 A4] 99 (0,0)) (dr A2) hb);replace HB:=Aside0.mk (below_step (tb HB) hb);(try clear hb);(try clear hb2);(try clear hk);(try clear hi)));go_meet
    case rel=>exact ⟨_,(A9),(by first|rfl|(simp;done)|(simp [*];done)),H',⟨by first|omega|exact Nat.le_refl _⟩,⟨dr A2⟩,⟨by exact tb HB⟩⟩
 case rest =>
  clear HC2;(try clear c1);(try clear p2);(try clear c4);(try clear c4b0);(try clear c4b1);(try clear c6);(try clear c6b0);(try clear c6b1);(try clear hcz5__);(try clear hcz7__);(try clear hcz9__);(try clear hfz5__);(try clear hfz7__);(try clear hfz9__);obtain ⟨kq,Ab,rfl,HA,HJ1,A2,HB⟩:=hcut
  cases kq with
  | zero=>exact absurd HA.out (by simp [impl_Parts.j0])
  | succ kj1 =>
   have H:=HA.out;clear HA;simp only [impl_Parts.j0] at H
   by_cases c11:Ab=true
   ·subst c11
    have H1:(some (([A1]:List Int)))=some r:=by rw [if_pos rfl] at H;exact H
    clear H;have H:=H1;clear H1;obtain ⟨y103,hy103⟩:∃ y_:List Int,y_=(([A1]:List Int)):=⟨_,rfl⟩
    replace H:(some y103)=some r:=by first|(rw [hy103];with_reducible exact H)|(have H2_:=(Option.bind_some _ _).symm.trans H;rw [hy103];with_reducible exact H2_)|(have H2_:=(Option.bind_some _ _).symm.trans H;with_reducible exact H2_)|with_reducible exact H|(rw [hy103];exact H)|exact H
    have Ny103:=Aside0.mk hy103;clear hy103;obtain rfl:=os H;have hcz12__:=c6_ A2;have hfz12__:=f_ A2;go_wp2_with (first|((with_reducible refine gate_dst (N:=18) rfl ?_);refine Kd.R_lit (Kd.int .i64) _ 3 ?hg (N:=18) ?hd (xs:=([A1]:List Int)) (inner:=[.int .i64 A1]) (ok:=fun _=>True) (okp:=fun _=>True) ?hr ?hp (fun _ hk=>hk) trivial (Below.refl _ _) (Nat.le_refl _) (by simp) ?_;(case hd=>rfl);(case hg=>rfl);(case hr=>first|(go_simp;done)|(go_simp;rfl));(case hp=>exact (Reps.one (show Kd.M (Kd.int .i64) _ _ _ A1 [.int .i64 A1] from rfl) (Reps.none _ _)));intro v104 w13 ho14 hb hg_ hnew_;clear hg_ hnew_;(first|rw [← Ny103.out] at ho14|(simp only [Int.reduceToNat] at ho14;rw [← Ny103.out] at ho14));have Ac:=Aside0.mk (Kd.R_lower ho14 (below_size (tb HB)));replace A2:=Aside0.mk (blk_below (g:=A7) (o := .cells #[.int .i64 A0,.int .i64 A5,.int .i64 A6,.int .i64 A1,.int .i64 A3,.int .i64 A4] 99 (0,0)) (dr A2) hb);replace HB:=Aside0.mk (below_step (tb HB) hb);clear hb ho14));go_ret;exact ⟨_,er,ra Ac,tb HB⟩
   ·replace c11:=Bool.eq_false_iff.mpr c11;subst c11
    have H1:((impl_within.f A0 3 16).bind fun Aa=>(if Aa=true then (some (([A1,A3]:List Int))) else (if A0=18 then (some (([A1,A3,A4]:List Int))) else (some (([]:List Int))))))=some r:=by rw [if_neg (show ¬ (false=true) by decide)] at H;exact H
    clear H;have H:=H1;clear H1;replace H:=ob H;obtain ⟨Aa,A150,H⟩:=H;replace H:(if Aa=true then (some (([A1,A3]:List Int))) else (if A0=18 then (some (([A1,A3,A4]:List Int))) else (some (([]:List Int)))))=some r:=H;have A15:=Aside0.mk A150;clear A150
    by_cases c16:Aa=true
    ·subst c16
     have H1:(some (([A1,A3]:List Int)))=some r:=by rw [if_pos rfl] at H;exact H
     clear H;have H:=H1;clear H1;obtain ⟨y107,hy107⟩:∃ y_:List Int,y_=(([A1,A3]:List Int)):=⟨_,rfl⟩
     replace H:(some y107)=some r:=by first|(rw [hy107];with_reducible exact H)|(have H2_:=(Option.bind_some _ _).symm.trans H;rw [hy107];with_reducible exact H2_)|(have H2_:=(Option.bind_some _ _).symm.trans H;with_reducible exact H2_)|with_reducible exact H|(rw [hy107];exact H)|exact H
     have Ny107:=Aside0.mk hy107;clear hy107;obtain rfl:=os H;have hcz17__:=c6_ A2;have hfz17__:=f_ A2;go_wp2_with (first|((with_reducible refine gate_callee (f:=61) rfl ?_);refine goesL_ (some 22) rfl rfl Try.func61 (by kernel_rfl) rfl #[.int .i64 A0,.int .i64 3,.int .i64 16] rfl ml ?_;(with_reducible refine (impl_within.calls A0 3 16 true _ A15.out).mono ?_);rintro e w' ⟨rfl,⟨nd,rfl⟩⟩;refine ⟨_,rfl,?_⟩)|((with_reducible refine gate_dst (N:=27) rfl ?_);refine Kd.R_lit (Kd.int .i64) _ 3 ?hg (N:=27) ?hd (xs:=([A1,A3]:List Int)) (inner:=[.int .i64 A1,.int .i64 A3]) (ok:=fun _=>True) (okp:=fun _=>True) ?hr ?hp (fun _ hk=>hk) trivial (Below.refl _ _) (Nat.le_refl _) (by simp) ?_;(case hd=>rfl);(case hg=>rfl);(case hr=>first|(go_simp;done)|(go_simp;rfl));(case hp=>exact (Reps.one (show Kd.M (Kd.int .i64) _ _ _ A1 [.int .i64 A1] from rfl) (Reps.one (show Kd.M (Kd.int .i64) _ _ _ A3 [.int .i64 A3] from rfl) (Reps.none _ _))));intro v108 w18 ho19 hb hg_ hnew_;clear hg_ hnew_;(first|rw [← Ny107.out] at ho19|(simp only [Int.reduceToNat] at ho19;rw [← Ny107.out] at ho19));have Ad:=Aside0.mk (Kd.R_lower ho19 (below_size (tb HB)));replace A2:=Aside0.mk (blk_below (g:=A7) (o := .cells #[.int .i64 A0,.int .i64 A5,.int .i64 A6,.int .i64 A1,.int .i64 A3,.int .i64 A4] 99 (0,0)) (dr A2) hb);replace HB:=Aside0.mk (below_step (tb HB) hb);clear hb ho19));go_ret;exact ⟨_,er,ra Ad,tb HB⟩
    ·replace c16:=Bool.eq_false_iff.mpr c16;subst c16
     have H1:(if A0=18 then (some (([A1,A3,A4]:List Int))) else (some (([]:List Int))))=some r:=by rw [if_neg (show ¬ (false=true) by decide)] at H;exact H
     clear H;have H:=H1;clear H1
     by_cases c20:A0=18
     ·rw [if_pos c20] at H;have c20b0:(A0 == 18)=true:=beq_iff_eq.mpr c20;have c20b1:(A0 != 18)=false:=bne_eq_false_iff_eq.mpr c20;clear c20;obtain ⟨y110,hy110⟩:∃ y_:List Int,y_=(([A1,A3,A4]:List Int)):=⟨_,rfl⟩
      replace H:(some y110)=some r:=by first|(rw [hy110];with_reducible exact H)|(have H2_:=(Option.bind_some _ _).symm.trans H;rw [hy110];with_reducible exact H2_)|(have H2_:=(Option.bind_some _ _).symm.trans H;with_reducible exact H2_)|with_reducible exact H|(rw [hy110];exact H)|exact H
      have Ny110:=Aside0.mk hy110;clear hy110;obtain rfl:=os H;have hcz21__:=c6_ A2;have hfz21__:=f_ A2;go_wp2_with (first|((with_reducible refine gate_callee (f:=61) rfl ?_);refine goesL_ (some 22) rfl rfl Try.func61 (by kernel_rfl) rfl #[.int .i64 A0,.int .i64 3,.int .i64 16] rfl ml ?_;(with_reducible refine (impl_within.calls A0 3 16 false _ A15.out).mono ?_);rintro e w' ⟨rfl,⟨nd,rfl⟩⟩;refine ⟨_,rfl,?_⟩)|((with_reducible refine gate_dst (N:=38) rfl ?_);refine Kd.R_lit (Kd.int .i64) _ 3 ?hg (N:=38) ?hd (xs:=([A1,A3,A4]:List Int)) (inner:=[.int .i64 A1,.int .i64 A3,.int .i64 A4]) (ok:=fun _=>True) (okp:=fun _=>True) ?hr ?hp (fun _ hk=>hk) trivial (Below.refl _ _) (Nat.le_refl _) (by simp) ?_;(case hd=>rfl);(case hg=>rfl);(case hr=>first|(go_simp;done)|(go_simp;rfl));(case hp=>exact (Reps.one (show Kd.M (Kd.int .i64) _ _ _ A1 [.int .i64 A1] from rfl) (Reps.one (show Kd.M (Kd.int .i64) _ _ _ A3 [.int .i64 A3] from rfl) (Reps.one (show Kd.M (Kd.int .i64) _ _ _ A4 [.int .i64 A4] from rfl) (Reps.none _ _)))));intro v111 w22 ho23 hb hg_ hnew_;clear hg_ hnew_;(first|rw [← Ny110.out] at ho23|(simp only [Int.reduceToNat] at ho23;rw [← Ny110.out] at ho23));have Ae:=Aside0.mk (Kd.R_lower ho23 (below_size (tb HB)));replace A2:=Aside0.mk (blk_below (g:=A7) (o := .cells #[.int .i64 A0,.int .i64 A5,.int .i64 A6,.int .i64 A1,.int .i64 A3,.int .i64 A4] 99 (0,0)) (dr A2) hb);replace HB:=Aside0.mk (below_step (tb HB) hb);clear hb ho23));go_ret;exact ⟨_,er,ra Ae,tb HB⟩
     ·rw [if_neg c20] at H;have c20b0:(A0 == 18)=false:=beq_eq_false_iff_ne.mpr c20;have c20b1:(A0 != 18)=true:=bne_iff_ne.mpr c20;obtain ⟨y113,hy113⟩:∃ y_:List Int,y_=(([]:List Int)):=⟨_,rfl⟩
      replace H:(some y113)=some r:=by first|(rw [hy113];with_reducible exact H)|(have H2_:=(Option.bind_some _ _).symm.trans H;rw [hy113];with_reducible exact H2_)|(have H2_:=(Option.bind_some _ _).symm.trans H;with_reducible exact H2_)|with_reducible exact H|(rw [hy113];exact H)|exact H
      have Ny113:=Aside0.mk hy113;clear hy113;obtain rfl:=os H;have hcz24__:=c6_ A2;have hfz24__:=f_ A2;go_wp2_with (first|((with_reducible refine gate_callee (f:=61) rfl ?_);refine goesL_ (some 22) rfl rfl Try.func61 (by kernel_rfl) rfl #[.int .i64 A0,.int .i64 3,.int .i64 16] rfl ml ?_;(with_reducible refine (impl_within.calls A0 3 16 false _ A15.out).mono ?_);rintro e w' ⟨rfl,⟨nd,rfl⟩⟩;refine ⟨_,rfl,?_⟩)|((with_reducible refine gate_dst (N:=39) rfl ?_);refine Kd.R_lit (Kd.int .i64) _ 3 ?hg (N:=39) ?hd (xs:=([]:List Int)) (inner:=[]) (ok:=fun _=>True) (okp:=fun _=>True) ?hr ?hp (fun _ hk=>hk) trivial (Below.refl _ _) (Nat.le_refl _) (by simp) ?_;(case hd=>rfl);(case hg=>rfl);(case hr=>first|(go_simp;done)|(go_simp;rfl));(case hp=>exact (Reps.none _ _));intro v114 w25 ho26 hb hg_ hnew_;clear hg_ hnew_;(first|rw [← Ny113.out] at ho26|(simp only [Int.reduceToNat] at ho26;rw [← Ny113.out] at ho26));have Af:=Aside0.mk (Kd.R_lower ho26 (below_size (tb HB)));replace A2:=Aside0.mk (blk_below (g:=A7) (o := .cells #[.int .i64 A0,.int .i64 A5,.int .i64 A6,.int .i64 A1,.int .i64 A3,.int .i64 A4] 99 (0,0)) (dr A2) hb);replace HB:=Aside0.mk (below_step (tb HB) hb);clear hb ho26));go_ret;exact ⟨_,er,ra Af,tb HB⟩
def impl_isVar.f (a0:Int):Option (Bool):=(impl_within.f a0 0 7).bind fun A0=>(some A0)
set_option maxHeartbeats 8000000 in
set_option maxRecDepth 100000 in
theorem impl_isVar.calls (a0:Int) (r:Bool) (w:World) (h:impl_isVar.f a0=some r) :
  Calls Try.prog 120 #[.int .i64 a0] w fun e w'=>e = .returned (.bool r)∧Drawn0 w w':=by
 have H:((impl_within.f a0 0 7).bind fun A0=>(some A0))=some r:=h;clear h;replace H:=ob H;obtain ⟨A0,A20,H⟩:=H;replace H:(some A0)=some r:=H;have A2:=Aside0.mk A20;clear A20;obtain rfl:=os H
 go_enter Try.func120,Try.ntmps120
 go_wp2_with (first|((with_reducible refine gate_callee (f:=61) rfl ?_);refine goesL_ (some 4) rfl rfl Try.func61 (by kernel_rfl) rfl #[.int .i64 a0,.int .i64 0,.int .i64 7] rfl ml ?_;(with_reducible refine (impl_within.calls a0 0 7 A0 _ A2.out).mono ?_);rintro e w' ⟨rfl,⟨nd,rfl⟩⟩;refine ⟨_,rfl,?_⟩));go_ret;exact ⟨e1,dn⟩
end Go.Proofs.Ythipjoioicmcnaa.G
namespace Go.Proofs.Ythipjoioicmcnaa.G
open Go.RowKit Go.Proofs.YthipjoioicmcnaaW.PrintWords Go.Proofs.YthipjoioicmcnaaW.PrintLast Go.Proofs.YthipjoioicmcnaaW.PrintMore
attribute [local go_sem] max2_int min2_int max_two min_two max_three min_three max_four min_four
set_option linter.unusedVariables false
set_option linter.unusedSimpArgs false
theorem eqA99 (d:Nat) (w:World) (x0 y0:Int) (x1 y1:Int) (x2 y2:Int) (x3 y3:Int) (x4 y4:Int) (x5 y5:Int) :
  (Op.equalIn (d + 2) 99 (.agg #[.int .i64 x0,.int .i64 x1,.int .i64 x2,.int .i64 x3,.int .i64 x4,.int .i64 x5]) (.agg #[.int .i64 y0,.int .i64 y1,.int .i64 y2,.int .i64 y3,.int .i64 y4,.int .i64 y5])).run Try.prog w = .ok (x0 == y0 && (x1 == y1 && (x2 == y2 && (x3 == y3 && (x4 == y4 && (x5 == y5)))))) w:=by
 refine eqA_of Try.underlying99 (by kernel_rfl) ?_
 refine eqf_cons (by rfl) (by go_simp;rfl) (by go_simp;rfl) (by go_simp) ?_
 refine eqf_cons (by rfl) (by go_simp;rfl) (by go_simp;rfl) (by go_simp) ?_
 refine eqf_cons (by rfl) (by go_simp;rfl) (by go_simp;rfl) (by go_simp) ?_
 refine eqf_cons (by rfl) (by go_simp;rfl) (by go_simp;rfl) (by go_simp) ?_
 refine eqf_cons (by rfl) (by go_simp;rfl) (by go_simp;rfl) (by go_simp) ?_
 exact eqf_last (by rfl) (by go_simp;rfl) (by go_simp;rfl) (by go_simp)
end Go.Proofs.Ythipjoioicmcnaa.G
