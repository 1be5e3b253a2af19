-- texts of this session, merged by a program of it (wip/gen/pack.py)
import Derived.Test.YthipjoioicmcnaaKFnExactTableOf1
import Derived.Test.YthipjoioicmcnaaKFnExactTableOf2
import Derived.Test.YthipjoioicmcnaaKFnExactTableOf7
import Derived.Test.YthipjoioicmcnaaKFnExactTableOf9
namespace Go.Proofs.Ythipjoioicmcnaa.G
open Go.Proofs.Ythipjoioicmcnaa.Sh
open Go.RowKit Go.Proofs.YthipjoioicmcnaaW.PrintWords Go.Proofs.YthipjoioicmcnaaW.PrintLast Go.Proofs.YthipjoioicmcnaaW.PrintMore
attribute [local go_sem] max2_int min2_int max_two min_two max_three min_three max_four min_four
set_option linter.unusedVariables false
set_option linter.unusedSimpArgs false
def spec_l01Two.f (k:Nat) (a0:Int) (a1:Int) (a2:Int):Option (Bool):=(spec_WordOk.f k a0 a1).bind fun A1=>(if A1=true then ((spec_WordOk.f k a0 a2).bind fun A0=>(some A0)) else (some false))
set_option maxHeartbeats 8000000 in
set_option maxRecDepth 100000 in
theorem spec_l01Two.calls (k:Nat) (a0:Int) (a1:Int) (a2:Int) (r:Bool) (w:World) (h:spec_l01Two.f k a0 a1 a2=some r) :
  Calls Try.prog 177 #[.int .i64 a0,.int .i64 a1,.int .i64 a2] w fun e w'=>e = .returned (.bool r)∧Drawn0 w w':=by
 have H:((spec_WordOk.f k a0 a1).bind fun A1=>(if A1=true then ((spec_WordOk.f k a0 a2).bind fun A0=>(some A0)) else (some false)))=some r:=h;clear h;replace H:=ob H;obtain ⟨A1,A40,H⟩:=H;replace H:(if A1=true then ((spec_WordOk.f k a0 a2).bind fun A0=>(some A0)) else (some false))=some r:=H;have A4:=Aside0.mk A40;clear A40
 by_cases c5:A1=true
 ·subst c5
  have H1:((spec_WordOk.f k a0 a2).bind fun A0=>(some A0))=some r:=by rw [if_pos rfl] at H;exact H
  clear H;have H:=H1;clear H1;replace H:=ob H;obtain ⟨A0,A60,H⟩:=H;replace H:(some A0)=some r:=H;have A6:=Aside0.mk A60;clear A60;obtain rfl:=os H
  go_enter Try.func177,Try.ntmps177
  go_wp2_with (first|((with_reducible refine gate_callee (f:=131) rfl ?_);refine goesL_ (some 9) rfl rfl Try.func131 (by kernel_rfl) rfl #[.int .i64 a0,.int .i64 a1] rfl ml ?_;(with_reducible refine (spec_WordOk.calls k a0 a1 true _ A4.out).mono ?_);rintro e w' ⟨rfl,⟨nd,rfl⟩⟩;refine ⟨_,rfl,?_⟩)|(go_at_call 131;(try simp only [i64_w,i32_w]);(with_reducible refine (spec_WordOk.calls k a0 a2 A0 _ A6.out).mono ?_);rintro e w' ⟨rfl,⟨nd,rfl⟩⟩));go_ret;exact ⟨e1,dn⟩
 ·replace c5:=Bool.eq_false_iff.mpr c5;subst c5
  have H1:(some false)=some r:=by rw [if_neg (show ¬ (false=true) by decide)] at H;exact H
  clear H;have H:=H1;clear H1;obtain rfl:=os H
  go_enter Try.func177,Try.ntmps177
  go_wp2_with (first|((with_reducible refine gate_callee (f:=131) rfl ?_);refine goesL_ (some 9) rfl rfl Try.func131 (by kernel_rfl) rfl #[.int .i64 a0,.int .i64 a1] rfl ml ?_;(with_reducible refine (spec_WordOk.calls k a0 a1 false _ A4.out).mono ?_);rintro e w' ⟨rfl,⟨nd,rfl⟩⟩;refine ⟨_,rfl,?_⟩));go_ret;exact ⟨e1,dn⟩
def spec_Add.f (k:Nat) (a0:Int) (a1:Int) (a2:Int):Option (Int):=(spec_l01Two.f k a0 a1 a2).bind fun A1=>(if A1=true then ((spec_l01Pow2.f k a0).bind fun A0=>(if A0=0 then (none) else (some (Int.tmod (wrap64 (a1 + a2)) A0)))) else (some 0))
set_option maxHeartbeats 8000000 in
set_option maxRecDepth 100000 in
theorem spec_Add.calls (k:Nat) (a0:Int) (a1:Int) (a2:Int) (r:Int) (w:World) (h:spec_Add.f k a0 a1 a2=some r) :
  Calls Try.prog 153 #[.int .i64 a0,.int .i64 a1,.int .i64 a2] w fun e w'=>e = .returned (.int .i64 r)∧Drawn0 w w':=by
 have H:((spec_l01Two.f k a0 a1 a2).bind fun A1=>(if A1=true then ((spec_l01Pow2.f k a0).bind fun A0=>(if A0=0 then (none) else (some (Int.tmod (wrap64 (a1 + a2)) A0)))) else (some 0)))=some r:=h;clear h;replace H:=ob H;obtain ⟨A1,A40,H⟩:=H;replace H:(if A1=true then ((spec_l01Pow2.f k a0).bind fun A0=>(if A0=0 then (none) else (some (Int.tmod (wrap64 (a1 + a2)) A0)))) else (some 0))=some r:=H;have A4:=Aside0.mk A40;clear A40
 by_cases c5:A1=true
 ·subst c5
  have H1:((spec_l01Pow2.f k a0).bind fun A0=>(if A0=0 then (none) else (some (Int.tmod (wrap64 (a1 + a2)) A0))))=some r:=by rw [if_pos rfl] at H;exact H
  clear H;have H:=H1;clear H1;replace H:=ob H;obtain ⟨A0,A60,H⟩:=H;replace H:(if A0=0 then (none) else (some (Int.tmod (wrap64 (a1 + a2)) A0)))=some r:=H;have A6:=Aside0.mk A60;clear A60
  by_cases c7:A0=0
  ·rw [if_pos c7] at H;exact absurd H (by simp)
  ·rw [if_neg c7] at H;have c7b0:(A0 == 0)=false:=beq_eq_false_iff_ne.mpr c7;have c7b1:(A0 != 0)=true:=bne_iff_ne.mpr c7;obtain rfl:=os H
   go_enter Try.func153,Try.ntmps153
   go_wp2_with (first|((with_reducible refine gate_callee (f:=177) rfl ?_);refine goesL_ (some 10) rfl rfl Try.func177 (by kernel_rfl) rfl #[.int .i64 a0,.int .i64 a1,.int .i64 a2] rfl ml ?_;(with_reducible refine (spec_l01Two.calls k a0 a1 a2 true _ A4.out).mono ?_);rintro e w' ⟨rfl,⟨nd,rfl⟩⟩;refine ⟨_,rfl,?_⟩)|((with_reducible refine gate_callee (f:=70) rfl ?_);refine goesL_ (some 16) rfl rfl Try.func70 (by kernel_rfl) rfl #[.int .i64 a0] rfl ml ?_;(with_reducible refine (spec_l01Pow2.calls k a0 A0 _ A6.out).mono ?_);rintro e w' ⟨rfl,⟨nd,rfl⟩⟩;refine ⟨_,rfl,?_⟩));go_ret;exact ⟨e1,dn⟩
 ·replace c5:=Bool.eq_false_iff.mpr c5;subst c5
  have H1:(some 0)=some r:=by rw [if_neg (show ¬ (false=true) by decide)] at H;exact H
  clear H;have H:=H1;clear H1;obtain rfl:=os H
  go_enter Try.func153,Try.ntmps153
  go_wp2_with (first|((with_reducible refine gate_callee (f:=177) rfl ?_);refine goesL_ (some 10) rfl rfl Try.func177 (by kernel_rfl) rfl #[.int .i64 a0,.int .i64 a1,.int .i64 a2] rfl ml ?_;(with_reducible refine (spec_l01Two.calls k a0 a1 a2 false _ A4.out).mono ?_);rintro e w' ⟨rfl,⟨nd,rfl⟩⟩;refine ⟨_,rfl,?_⟩));go_ret;exact ⟨e1,dn⟩
def spec_Div.f (k:Nat) (a0:Int) (a1:Int) (a2:Int):Option (Int):=(spec_l01Two.f k a0 a1 a2).bind fun A1=>(if A1=true then (if a2=0 then ((spec_l01Pow2.f k a0).bind fun A0=>(some (wrap64 (A0 - 1)))) else (some (wrap64 (Int.tdiv a1 a2)))) else (some 0))
set_option maxHeartbeats 8000000 in
set_option maxRecDepth 100000 in
theorem spec_Div.calls (k:Nat) (a0:Int) (a1:Int) (a2:Int) (r:Int) (w:World) (h:spec_Div.f k a0 a1 a2=some r) :
  Calls Try.prog 156 #[.int .i64 a0,.int .i64 a1,.int .i64 a2] w fun e w'=>e = .returned (.int .i64 r)∧Drawn0 w w':=by
 have H:((spec_l01Two.f k a0 a1 a2).bind fun A1=>(if A1=true then (if a2=0 then ((spec_l01Pow2.f k a0).bind fun A0=>(some (wrap64 (A0 - 1)))) else (some (wrap64 (Int.tdiv a1 a2)))) else (some 0)))=some r:=h;clear h;replace H:=ob H;obtain ⟨A1,A40,H⟩:=H;replace H:(if A1=true then (if a2=0 then ((spec_l01Pow2.f k a0).bind fun A0=>(some (wrap64 (A0 - 1)))) else (some (wrap64 (Int.tdiv a1 a2)))) else (some 0))=some r:=H;have A4:=Aside0.mk A40;clear A40
 by_cases c5:A1=true
 ·subst c5
  have H1:(if a2=0 then ((spec_l01Pow2.f k a0).bind fun A0=>(some (wrap64 (A0 - 1)))) else (some (wrap64 (Int.tdiv a1 a2))))=some r:=by rw [if_pos rfl] at H;exact H
  clear H;have H:=H1;clear H1
  by_cases c6:a2=0
  ·rw [if_pos c6] at H;have c6b0:(a2 == 0)=true:=beq_iff_eq.mpr c6;have c6b1:(a2 != 0)=false:=bne_eq_false_iff_eq.mpr c6;clear c6;replace H:=ob H;obtain ⟨A0,A70,H⟩:=H;replace H:(some (wrap64 (A0 - 1)))=some r:=H;have A7:=Aside0.mk A70;clear A70;obtain rfl:=os H
   go_enter Try.func156,Try.ntmps156
   go_wp2_with (first|((with_reducible refine gate_callee (f:=177) rfl ?_);refine goesL_ (some 10) rfl rfl Try.func177 (by kernel_rfl) rfl #[.int .i64 a0,.int .i64 a1,.int .i64 a2] rfl ml ?_;(with_reducible refine (spec_l01Two.calls k a0 a1 a2 true _ A4.out).mono ?_);rintro e w' ⟨rfl,⟨nd,rfl⟩⟩;refine ⟨_,rfl,?_⟩)|((with_reducible refine gate_callee (f:=70) rfl ?_);refine goesL_ (some 15) rfl rfl Try.func70 (by kernel_rfl) rfl #[.int .i64 a0] rfl ml ?_;(with_reducible refine (spec_l01Pow2.calls k a0 A0 _ A7.out).mono ?_);rintro e w' ⟨rfl,⟨nd,rfl⟩⟩;refine ⟨_,rfl,?_⟩));go_ret;exact ⟨e1,dn⟩
  ·rw [if_neg c6] at H;have c6b0:(a2 == 0)=false:=beq_eq_false_iff_ne.mpr c6;have c6b1:(a2 != 0)=true:=bne_iff_ne.mpr c6;obtain rfl:=os H
   go_enter Try.func156,Try.ntmps156
   go_wp2_with (first|((with_reducible refine gate_callee (f:=177) rfl ?_);refine goesL_ (some 10) rfl rfl Try.func177 (by kernel_rfl) rfl #[.int .i64 a0,.int .i64 a1,.int .i64 a2] rfl ml ?_;(with_reducible refine (spec_l01Two.calls k a0 a1 a2 true _ A4.out).mono ?_);rintro e w' ⟨rfl,⟨nd,rfl⟩⟩;refine ⟨_,rfl,?_⟩));go_ret;exact ⟨e1,dn⟩
 ·replace c5:=Bool.eq_false_iff.mpr c5;subst c5
  have H1:(some 0)=some r:=by rw [if_neg (show ¬ (false=true) by decide)] at H;exact H
  clear H;have H:=H1;clear H1;obtain rfl:=os H
  go_enter Try.func156,Try.ntmps156
  go_wp2_with (first|((with_reducible refine gate_callee (f:=177) rfl ?_);refine goesL_ (some 10) rfl rfl Try.func177 (by kernel_rfl) rfl #[.int .i64 a0,.int .i64 a1,.int .i64 a2] rfl ml ?_;(with_reducible refine (spec_l01Two.calls k a0 a1 a2 false _ A4.out).mono ?_);rintro e w' ⟨rfl,⟨nd,rfl⟩⟩;refine ⟨_,rfl,?_⟩));go_ret;exact ⟨e1,dn⟩
def spec_Flip.f (k:Nat) (a0:Int) (a1:Int):Option (Int):=(spec_WordOk.f k a0 a1).bind fun A1=>(if A1=true then ((spec_l01Pow2.f k a0).bind fun A0=>(some (wrap64 ((wrap64 (A0 - 1)) - a1)))) else (some 0))
set_option maxHeartbeats 8000000 in
set_option maxRecDepth 100000 in
theorem spec_Flip.calls (k:Nat) (a0:Int) (a1:Int) (r:Int) (w:World) (h:spec_Flip.f k a0 a1=some r) :
  Calls Try.prog 152 #[.int .i64 a0,.int .i64 a1] w fun e w'=>e = .returned (.int .i64 r)∧Drawn0 w w':=by
 have H:((spec_WordOk.f k a0 a1).bind fun A1=>(if A1=true then ((spec_l01Pow2.f k a0).bind fun A0=>(some (wrap64 ((wrap64 (A0 - 1)) - a1)))) else (some 0)))=some r:=h;clear h;replace H:=ob H;obtain ⟨A1,A30,H⟩:=H;replace H:(if A1=true then ((spec_l01Pow2.f k a0).bind fun A0=>(some (wrap64 ((wrap64 (A0 - 1)) - a1)))) else (some 0))=some r:=H;have A3:=Aside0.mk A30;clear A30
 by_cases c4:A1=true
 ·subst c4
  have H1:((spec_l01Pow2.f k a0).bind fun A0=>(some (wrap64 ((wrap64 (A0 - 1)) - a1))))=some r:=by rw [if_pos rfl] at H;exact H
  clear H;have H:=H1;clear H1;replace H:=ob H;obtain ⟨A0,A50,H⟩:=H;replace H:(some (wrap64 ((wrap64 (A0 - 1)) - a1)))=some r:=H;have A5:=Aside0.mk A50;clear A50;obtain rfl:=os H
  go_enter Try.func152,Try.ntmps152
  go_wp2_with (first|((with_reducible refine gate_callee (f:=131) rfl ?_);refine goesL_ (some 7) rfl rfl Try.func131 (by kernel_rfl) rfl #[.int .i64 a0,.int .i64 a1] rfl ml ?_;(with_reducible refine (spec_WordOk.calls k a0 a1 true _ A3.out).mono ?_);rintro e w' ⟨rfl,⟨nd,rfl⟩⟩;refine ⟨_,rfl,?_⟩)|((with_reducible refine gate_callee (f:=70) rfl ?_);refine goesL_ (some 10) rfl rfl Try.func70 (by kernel_rfl) rfl #[.int .i64 a0] rfl ml ?_;(with_reducible refine (spec_l01Pow2.calls k a0 A0 _ A5.out).mono ?_);rintro e w' ⟨rfl,⟨nd,rfl⟩⟩;refine ⟨_,rfl,?_⟩));go_ret;exact ⟨e1,dn⟩
 ·replace c4:=Bool.eq_false_iff.mpr c4;subst c4
  have H1:(some 0)=some r:=by rw [if_neg (show ¬ (false=true) by decide)] at H;exact H
  clear H;have H:=H1;clear H1;obtain rfl:=os H
  go_enter Try.func152,Try.ntmps152
  go_wp2_with (first|((with_reducible refine gate_callee (f:=131) rfl ?_);refine goesL_ (some 7) rfl rfl Try.func131 (by kernel_rfl) rfl #[.int .i64 a0,.int .i64 a1] rfl ml ?_;(with_reducible refine (spec_WordOk.calls k a0 a1 false _ A3.out).mono ?_);rintro e w' ⟨rfl,⟨nd,rfl⟩⟩;refine ⟨_,rfl,?_⟩));go_ret;exact ⟨e1,dn⟩
def spec_l01Bool.f (a0:Bool):Option (Int):=if a0=true then (some 1) else (some 0)
set_option maxHeartbeats 8000000 in
set_option maxRecDepth 100000 in
theorem spec_l01Bool.calls (a0:Bool) (r:Int) (w:World) (h:spec_l01Bool.f a0=some r) :
  Calls Try.prog 160 #[.bool a0] w fun e w'=>e = .returned (.int .i64 r)∧Drawn0 w w':=by
 have H:(if a0=true then (some 1) else (some 0))=some r:=h;clear h
 by_cases c2:a0=true
 ·subst c2
  have H1:(some 1)=some r:=by rw [if_pos rfl] at H;exact H
  clear H;have H:=H1;clear H1;obtain rfl:=os H
  go_enter Try.func160,Try.ntmps160
  go_wp2;go_ret;exact ⟨e1,dn⟩
 ·replace c2:=Bool.eq_false_iff.mpr c2;subst c2
  have H1:(some 0)=some r:=by rw [if_neg (show ¬ (false=true) by decide)] at H;exact H
  clear H;have H:=H1;clear H1;obtain rfl:=os H
  go_enter Try.func160,Try.ntmps160
  go_wp2;go_ret;exact ⟨e1,dn⟩
def spec_Less.f (k:Nat) (a0:Int) (a1:Int) (a2:Int):Option (Int):=(spec_l01Two.f k a0 a1 a2).bind fun A2=>(if A2=true then ((spec_l01Bool.f (decide (a1 < a2))).bind fun A0=>(some A0)) else ((spec_l01Bool.f false).bind fun A1=>(some A1)))
set_option maxHeartbeats 8000000 in
set_option maxRecDepth 100000 in
theorem spec_Less.calls (k:Nat) (a0:Int) (a1:Int) (a2:Int) (r:Int) (w:World) (h:spec_Less.f k a0 a1 a2=some r) :
  Calls Try.prog 161 #[.int .i64 a0,.int .i64 a1,.int .i64 a2] w fun e w'=>e = .returned (.int .i64 r)∧Drawn0 w w':=by
 have H:((spec_l01Two.f k a0 a1 a2).bind fun A2=>(if A2=true then ((spec_l01Bool.f (decide (a1 < a2))).bind fun A0=>(some A0)) else ((spec_l01Bool.f false).bind fun A1=>(some A1))))=some r:=h;clear h;replace H:=ob H;obtain ⟨A2,A40,H⟩:=H;replace H:(if A2=true then ((spec_l01Bool.f (decide (a1 < a2))).bind fun A0=>(some A0)) else ((spec_l01Bool.f false).bind fun A1=>(some A1)))=some r:=H;have A4:=Aside0.mk A40;clear A40
 by_cases c5:A2=true
 ·subst c5
  have H1:((spec_l01Bool.f (decide (a1 < a2))).bind fun A0=>(some A0))=some r:=by rw [if_pos rfl] at H;exact H
  clear H;have H:=H1;clear H1;replace H:=ob H;obtain ⟨A0,A60,H⟩:=H;replace H:(some A0)=some r:=H;have A6:=Aside0.mk A60;clear A60;obtain rfl:=os H
  go_enter Try.func161,Try.ntmps161
  go_wp2_with (first|((with_reducible refine gate_callee (f:=177) rfl ?_);refine goesL_ (some 10) rfl rfl Try.func177 (by kernel_rfl) rfl #[.int .i64 a0,.int .i64 a1,.int .i64 a2] rfl ml ?_;(with_reducible refine (spec_l01Two.calls k a0 a1 a2 true _ A4.out).mono ?_);rintro e w' ⟨rfl,⟨nd,rfl⟩⟩;refine ⟨_,rfl,?_⟩)|((with_reducible refine gate_callee (f:=160) rfl ?_);refine goesL_ (some 16) rfl rfl Try.func160 (by kernel_rfl) rfl #[.bool (decide (a1 < a2))] rfl ml ?_;(with_reducible refine (spec_l01Bool.calls (decide (a1 < a2)) A0 _ A6.out).mono ?_);rintro e w' ⟨rfl,⟨nd,rfl⟩⟩;refine ⟨_,rfl,?_⟩));go_ret;exact ⟨e1,dn⟩
 ·replace c5:=Bool.eq_false_iff.mpr c5;subst c5
  have H1:((spec_l01Bool.f false).bind fun A1=>(some A1))=some r:=by rw [if_neg (show ¬ (false=true) by decide)] at H;exact H
  clear H;have H:=H1;clear H1;replace H:=ob H;obtain ⟨A1,A70,H⟩:=H;replace H:(some A1)=some r:=H;have A7:=Aside0.mk A70;clear A70;obtain rfl:=os H
  go_enter Try.func161,Try.ntmps161
  go_wp2_with (first|((with_reducible refine gate_callee (f:=177) rfl ?_);refine goesL_ (some 10) rfl rfl Try.func177 (by kernel_rfl) rfl #[.int .i64 a0,.int .i64 a1,.int .i64 a2] rfl ml ?_;(with_reducible refine (spec_l01Two.calls k a0 a1 a2 false _ A4.out).mono ?_);rintro e w' ⟨rfl,⟨nd,rfl⟩⟩;refine ⟨_,rfl,?_⟩)|((with_reducible refine gate_callee (f:=160) rfl ?_);refine goesL_ (some 16) rfl rfl Try.func160 (by kernel_rfl) rfl #[.bool false] rfl ml ?_;(with_reducible refine (spec_l01Bool.calls false A1 _ A7.out).mono ?_);rintro e w' ⟨rfl,⟨nd,rfl⟩⟩;refine ⟨_,rfl,?_⟩));go_ret;exact ⟨e1,dn⟩
def spec_Signed.f (k:Nat) (a0:Int) (a1:Int):Option (Int):=(spec_WordOk.f k a0 a1).bind fun A2=>(if A2=true then ((spec_l01Pow2.f k (wrap64 (a0 - 1))).bind fun A0=>(if a1 ≥ A0 then ((spec_l01Pow2.f k a0).bind fun A1=>(some (wrap64 (a1 - A1)))) else (some a1))) else (some 0))
set_option maxHeartbeats 8000000 in
set_option maxRecDepth 100000 in
theorem spec_Signed.calls (k:Nat) (a0:Int) (a1:Int) (r:Int) (w:World) (h:spec_Signed.f k a0 a1=some r) :
  Calls Try.prog 178 #[.int .i64 a0,.int .i64 a1] w fun e w'=>e = .returned (.int .i64 r)∧Drawn0 w w':=by
 have H:((spec_WordOk.f k a0 a1).bind fun A2=>(if A2=true then ((spec_l01Pow2.f k (wrap64 (a0 - 1))).bind fun A0=>(if a1 ≥ A0 then ((spec_l01Pow2.f k a0).bind fun A1=>(some (wrap64 (a1 - A1)))) else (some a1))) else (some 0)))=some r:=h;clear h;replace H:=ob H;obtain ⟨A2,A30,H⟩:=H;replace H:(if A2=true then ((spec_l01Pow2.f k (wrap64 (a0 - 1))).bind fun A0=>(if a1 ≥ A0 then ((spec_l01Pow2.f k a0).bind fun A1=>(some (wrap64 (a1 - A1)))) else (some a1))) else (some 0))=some r:=H;have A3:=Aside0.mk A30;clear A30
 by_cases c4:A2=true
 ·subst c4
  have H1:((spec_l01Pow2.f k (wrap64 (a0 - 1))).bind fun A0=>(if a1 ≥ A0 then ((spec_l01Pow2.f k a0).bind fun A1=>(some (wrap64 (a1 - A1)))) else (some a1)))=some r:=by rw [if_pos rfl] at H;exact H
  clear H;have H:=H1;clear H1;replace H:=ob H;obtain ⟨A0,A50,H⟩:=H;replace H:(if a1 ≥ A0 then ((spec_l01Pow2.f k a0).bind fun A1=>(some (wrap64 (a1 - A1)))) else (some a1))=some r:=H;have A5:=Aside0.mk A50;clear A50
  by_cases c6:a1 ≥ A0
  ·rw [if_pos c6] at H;have c6b0:decide (A0≤a1)=true:=decide_eq_true c6;clear c6;replace H:=ob H;obtain ⟨A1,A70,H⟩:=H;replace H:(some (wrap64 (a1 - A1)))=some r:=H;have A7:=Aside0.mk A70;clear A70;obtain rfl:=os H
   go_enter Try.func178,Try.ntmps178
   go_wp2_with (first|((with_reducible refine gate_callee (f:=131) rfl ?_);refine goesL_ (some 7) rfl rfl Try.func131 (by kernel_rfl) rfl #[.int .i64 a0,.int .i64 a1] rfl ml ?_;(with_reducible refine (spec_WordOk.calls k a0 a1 true _ A3.out).mono ?_);rintro e w' ⟨rfl,⟨nd,rfl⟩⟩;refine ⟨_,rfl,?_⟩)|((with_reducible refine gate_callee (f:=70) rfl ?_);refine goesL_ (some 12) rfl rfl Try.func70 (by kernel_rfl) rfl #[.int .i64 (wrap64 (a0 - 1))] rfl ml ?_;(with_reducible refine (spec_l01Pow2.calls k (wrap64 (a0 - 1)) A0 _ A5.out).mono ?_);rintro e w' ⟨rfl,⟨nd,rfl⟩⟩;refine ⟨_,rfl,?_⟩)|((with_reducible refine gate_callee (f:=70) rfl ?_);refine goesL_ (some 16) rfl rfl Try.func70 (by kernel_rfl) rfl #[.int .i64 a0] rfl ml ?_;(with_reducible refine (spec_l01Pow2.calls k a0 A1 _ A7.out).mono ?_);rintro e w' ⟨rfl,⟨nd,rfl⟩⟩;refine ⟨_,rfl,?_⟩));go_ret;exact ⟨e1,dn⟩
  ·rw [if_neg c6] at H;have c6b0:decide (A0≤a1)=false:=decide_eq_false c6;clear c6;obtain rfl:=os H
   go_enter Try.func178,Try.ntmps178
   go_wp2_with (first|((with_reducible refine gate_callee (f:=131) rfl ?_);refine goesL_ (some 7) rfl rfl Try.func131 (by kernel_rfl) rfl #[.int .i64 a0,.int .i64 a1] rfl ml ?_;(with_reducible refine (spec_WordOk.calls k a0 a1 true _ A3.out).mono ?_);rintro e w' ⟨rfl,⟨nd,rfl⟩⟩;refine ⟨_,rfl,?_⟩)|((with_reducible refine gate_callee (f:=70) rfl ?_);refine goesL_ (some 12) rfl rfl Try.func70 (by kernel_rfl) rfl #[.int .i64 (wrap64 (a0 - 1))] rfl ml ?_;(with_reducible refine (spec_l01Pow2.calls k (wrap64 (a0 - 1)) A0 _ A5.out).mono ?_);rintro e w' ⟨rfl,⟨nd,rfl⟩⟩;refine ⟨_,rfl,?_⟩));go_ret;exact ⟨e1,dn⟩
 ·replace c4:=Bool.eq_false_iff.mpr c4;subst c4
  have H1:(some 0)=some r:=by rw [if_neg (show ¬ (false=true) by decide)] at H;exact H
  clear H;have H:=H1;clear H1;obtain rfl:=os H
  go_enter Try.func178,Try.ntmps178
  go_wp2_with (first|((with_reducible refine gate_callee (f:=131) rfl ?_);refine goesL_ (some 7) rfl rfl Try.func131 (by kernel_rfl) rfl #[.int .i64 a0,.int .i64 a1] rfl ml ?_;(with_reducible refine (spec_WordOk.calls k a0 a1 false _ A3.out).mono ?_);rintro e w' ⟨rfl,⟨nd,rfl⟩⟩;refine ⟨_,rfl,?_⟩));go_ret;exact ⟨e1,dn⟩
def spec_LessSigned.f (k:Nat) (a0:Int) (a1:Int) (a2:Int):Option (Int):=(spec_l01Two.f k a0 a1 a2).bind fun A5=>(if A5=true then ((spec_Signed.f k a0 a1).bind fun A2=>((spec_Signed.f k a0 a2).bind fun A0=>((spec_l01Bool.f (decide (A2 < A0))).bind fun A1=>(some A1)))) else ((spec_l01Bool.f false).bind fun A3=>(some A3)))
set_option maxHeartbeats 8000000 in
set_option maxRecDepth 100000 in
theorem spec_LessSigned.calls (k:Nat) (a0:Int) (a1:Int) (a2:Int) (r:Int) (w:World) (h:spec_LessSigned.f k a0 a1 a2=some r) :
  Calls Try.prog 162 #[.int .i64 a0,.int .i64 a1,.int .i64 a2] w fun e w'=>e = .returned (.int .i64 r)∧Drawn0 w w':=by
 have H:((spec_l01Two.f k a0 a1 a2).bind fun A5=>(if A5=true then ((spec_Signed.f k a0 a1).bind fun A2=>((spec_Signed.f k a0 a2).bind fun A0=>((spec_l01Bool.f (decide (A2 < A0))).bind fun A1=>(some A1)))) else ((spec_l01Bool.f false).bind fun A3=>(some A3))))=some r:=h;clear h;replace H:=ob H;obtain ⟨A5,A40,H⟩:=H;replace H:(if A5=true then ((spec_Signed.f k a0 a1).bind fun A2=>((spec_Signed.f k a0 a2).bind fun A0=>((spec_l01Bool.f (decide (A2 < A0))).bind fun A1=>(some A1)))) else ((spec_l01Bool.f false).bind fun A3=>(some A3)))=some r:=H;have A4:=Aside0.mk A40;clear A40
 by_cases c5:A5=true
 ·subst c5
  have H1:((spec_Signed.f k a0 a1).bind fun A2=>((spec_Signed.f k a0 a2).bind fun A0=>((spec_l01Bool.f (decide (A2 < A0))).bind fun A1=>(some A1))))=some r:=by rw [if_pos rfl] at H;exact H
  clear H;have H:=H1;clear H1;replace H:=ob H;obtain ⟨A2,A60,H⟩:=H;replace H:((spec_Signed.f k a0 a2).bind fun A0=>((spec_l01Bool.f (decide (A2 < A0))).bind fun A1=>(some A1)))=some r:=H;have A6:=Aside0.mk A60;clear A60;replace H:=ob H;obtain ⟨A0,A70,H⟩:=H;replace H:((spec_l01Bool.f (decide (A2 < A0))).bind fun A1=>(some A1))=some r:=H;have A7:=Aside0.mk A70;clear A70;replace H:=ob H;obtain ⟨A1,A80,H⟩:=H;replace H:(some A1)=some r:=H;have A8:=Aside0.mk A80;clear A80;obtain rfl:=os H
  go_enter Try.func162,Try.ntmps162
  go_wp2_with (first|((with_reducible refine gate_callee (f:=177) rfl ?_);refine goesL_ (some 10) rfl rfl Try.func177 (by kernel_rfl) rfl #[.int .i64 a0,.int .i64 a1,.int .i64 a2] rfl ml ?_;(with_reducible refine (spec_l01Two.calls k a0 a1 a2 true _ A4.out).mono ?_);rintro e w' ⟨rfl,⟨nd,rfl⟩⟩;refine ⟨_,rfl,?_⟩)|(go_at_call 178;(try simp only [i64_w,i32_w]);(with_reducible refine (spec_Signed.calls k a0 a1 A2 _ A6.out).mono ?_);rintro e w' ⟨rfl,⟨nd,rfl⟩⟩)|(go_at_call 178;(try simp only [i64_w,i32_w]);(with_reducible refine (spec_Signed.calls k a0 a2 A0 _ A7.out).mono ?_);rintro e w' ⟨rfl,⟨nd,rfl⟩⟩)|((with_reducible refine gate_callee (f:=160) rfl ?_);refine goesL_ (some 20) rfl rfl Try.func160 (by kernel_rfl) rfl #[.bool (decide (A2 < A0))] rfl ml ?_;(with_reducible refine (spec_l01Bool.calls (decide (A2 < A0)) A1 _ A8.out).mono ?_);rintro e w' ⟨rfl,⟨nd,rfl⟩⟩;refine ⟨_,rfl,?_⟩));go_ret;exact ⟨e1,dn⟩
 ·replace c5:=Bool.eq_false_iff.mpr c5;subst c5
  have H1:((spec_l01Bool.f false).bind fun A3=>(some A3))=some r:=by rw [if_neg (show ¬ (false=true) by decide)] at H;exact H
  clear H;have H:=H1;clear H1;replace H:=ob H;obtain ⟨A3,A90,H⟩:=H;replace H:(some A3)=some r:=H;have A9:=Aside0.mk A90;clear A90;obtain rfl:=os H
  go_enter Try.func162,Try.ntmps162
  go_wp2_with (first|((with_reducible refine gate_callee (f:=177) rfl ?_);refine goesL_ (some 10) rfl rfl Try.func177 (by kernel_rfl) rfl #[.int .i64 a0,.int .i64 a1,.int .i64 a2] rfl ml ?_;(with_reducible refine (spec_l01Two.calls k a0 a1 a2 false _ A4.out).mono ?_);rintro e w' ⟨rfl,⟨nd,rfl⟩⟩;refine ⟨_,rfl,?_⟩)|((with_reducible refine gate_callee (f:=160) rfl ?_);refine goesL_ (some 20) rfl rfl Try.func160 (by kernel_rfl) rfl #[.bool false] rfl ml ?_;(with_reducible refine (spec_l01Bool.calls false A3 _ A9.out).mono ?_);rintro e w' ⟨rfl,⟨nd,rfl⟩⟩;refine ⟨_,rfl,?_⟩));go_ret;exact ⟨e1,dn⟩
def spec_Mul.f (k:Nat) (a0:Int) (a1:Int) (a2:Int):Option (Int):=(spec_l01Two.f k a0 a1 a2).bind fun A1=>(if A1=true then ((spec_l01Pow2.f k a0).bind fun A0=>(if A0=0 then (none) else (some (Int.tmod (wrap64 (a1 * a2)) A0)))) else (some 0))
set_option maxHeartbeats 8000000 in
set_option maxRecDepth 100000 in
theorem spec_Mul.calls (k:Nat) (a0:Int) (a1:Int) (a2:Int) (r:Int) (w:World) (h:spec_Mul.f k a0 a1 a2=some r) :
  Calls Try.prog 155 #[.int .i64 a0,.int .i64 a1,.int .i64 a2] w fun e w'=>e = .returned (.int .i64 r)∧Drawn0 w w':=by
 have H:((spec_l01Two.f k a0 a1 a2).bind fun A1=>(if A1=true then ((spec_l01Pow2.f k a0).bind fun A0=>(if A0=0 then (none) else (some (Int.tmod (wrap64 (a1 * a2)) A0)))) else (some 0)))=some r:=h;clear h;replace H:=ob H;obtain ⟨A1,A40,H⟩:=H;replace H:(if A1=true then ((spec_l01Pow2.f k a0).bind fun A0=>(if A0=0 then (none) else (some (Int.tmod (wrap64 (a1 * a2)) A0)))) else (some 0))=some r:=H;have A4:=Aside0.mk A40;clear A40
 by_cases c5:A1=true
 ·subst c5
  have H1:((spec_l01Pow2.f k a0).bind fun A0=>(if A0=0 then (none) else (some (Int.tmod (wrap64 (a1 * a2)) A0))))=some r:=by rw [if_pos rfl] at H;exact H
  clear H;have H:=H1;clear H1;replace H:=ob H;obtain ⟨A0,A60,H⟩:=H;replace H:(if A0=0 then (none) else (some (Int.tmod (wrap64 (a1 * a2)) A0)))=some r:=H;have A6:=Aside0.mk A60;clear A60
  by_cases c7:A0=0
  ·rw [if_pos c7] at H;exact absurd H (by simp)
  ·rw [if_neg c7] at H;have c7b0:(A0 == 0)=false:=beq_eq_false_iff_ne.mpr c7;have c7b1:(A0 != 0)=true:=bne_iff_ne.mpr c7;obtain rfl:=os H
   go_enter Try.func155,Try.ntmps155
   go_wp2_with (first|((with_reducible refine gate_callee (f:=177) rfl ?_);refine goesL_ (some 10) rfl rfl Try.func177 (by kernel_rfl) rfl #[.int .i64 a0,.int .i64 a1,.int .i64 a2] rfl ml ?_;(with_reducible refine (spec_l01Two.calls k a0 a1 a2 true _ A4.out).mono ?_);rintro e w' ⟨rfl,⟨nd,rfl⟩⟩;refine ⟨_,rfl,?_⟩)|((with_reducible refine gate_callee (f:=70) rfl ?_);refine goesL_ (some 16) rfl rfl Try.func70 (by kernel_rfl) rfl #[.int .i64 a0] rfl ml ?_;(with_reducible refine (spec_l01Pow2.calls k a0 A0 _ A6.out).mono ?_);rintro e w' ⟨rfl,⟨nd,rfl⟩⟩;refine ⟨_,rfl,?_⟩));go_ret;exact ⟨e1,dn⟩
 ·replace c5:=Bool.eq_false_iff.mpr c5;subst c5
  have H1:(some 0)=some r:=by rw [if_neg (show ¬ (false=true) by decide)] at H;exact H
  clear H;have H:=H1;clear H1;obtain rfl:=os H
  go_enter Try.func155,Try.ntmps155
  go_wp2_with (first|((with_reducible refine gate_callee (f:=177) rfl ?_);refine goesL_ (some 10) rfl rfl Try.func177 (by kernel_rfl) rfl #[.int .i64 a0,.int .i64 a1,.int .i64 a2] rfl ml ?_;(with_reducible refine (spec_l01Two.calls k a0 a1 a2 false _ A4.out).mono ?_);rintro e w' ⟨rfl,⟨nd,rfl⟩⟩;refine ⟨_,rfl,?_⟩));go_ret;exact ⟨e1,dn⟩
def spec_Rem.f (k:Nat) (a0:Int) (a1:Int) (a2:Int):Option (Int):=(spec_l01Two.f k a0 a1 a2).bind fun A0=>(if A0=true then (if a2=0 then (some a1) else (some (Int.tmod a1 a2))) else (some 0))
set_option maxHeartbeats 8000000 in
set_option maxRecDepth 100000 in
theorem spec_Rem.calls (k:Nat) (a0:Int) (a1:Int) (a2:Int) (r:Int) (w:World) (h:spec_Rem.f k a0 a1 a2=some r) :
  Calls Try.prog 157 #[.int .i64 a0,.int .i64 a1,.int .i64 a2] w fun e w'=>e = .returned (.int .i64 r)∧Drawn0 w w':=by
 have H:((spec_l01Two.f k a0 a1 a2).bind fun A0=>(if A0=true then (if a2=0 then (some a1) else (some (Int.tmod a1 a2))) else (some 0)))=some r:=h;clear h;replace H:=ob H;obtain ⟨A0,A40,H⟩:=H;replace H:(if A0=true then (if a2=0 then (some a1) else (some (Int.tmod a1 a2))) else (some 0))=some r:=H;have A4:=Aside0.mk A40;clear A40
 by_cases c5:A0=true
 ·subst c5
  have H1:(if a2=0 then (some a1) else (some (Int.tmod a1 a2)))=some r:=by rw [if_pos rfl] at H;exact H
  clear H;have H:=H1;clear H1
  by_cases c6:a2=0
  ·rw [if_pos c6] at H;have c6b0:(a2 == 0)=true:=beq_iff_eq.mpr c6;have c6b1:(a2 != 0)=false:=bne_eq_false_iff_eq.mpr c6;clear c6;obtain rfl:=os H
   go_enter Try.func157,Try.ntmps157
   go_wp2_with (first|((with_reducible refine gate_callee (f:=177) rfl ?_);refine goesL_ (some 10) rfl rfl Try.func177 (by kernel_rfl) rfl #[.int .i64 a0,.int .i64 a1,.int .i64 a2] rfl ml ?_;(with_reducible refine (spec_l01Two.calls k a0 a1 a2 true _ A4.out).mono ?_);rintro e w' ⟨rfl,⟨nd,rfl⟩⟩;refine ⟨_,rfl,?_⟩));go_ret;exact ⟨e1,dn⟩
  ·rw [if_neg c6] at H;have c6b0:(a2 == 0)=false:=beq_eq_false_iff_ne.mpr c6;have c6b1:(a2 != 0)=true:=bne_iff_ne.mpr c6;obtain rfl:=os H
   go_enter Try.func157,Try.ntmps157
   go_wp2_with (first|((with_reducible refine gate_callee (f:=177) rfl ?_);refine goesL_ (some 10) rfl rfl Try.func177 (by kernel_rfl) rfl #[.int .i64 a0,.int .i64 a1,.int .i64 a2] rfl ml ?_;(with_reducible refine (spec_l01Two.calls k a0 a1 a2 true _ A4.out).mono ?_);rintro e w' ⟨rfl,⟨nd,rfl⟩⟩;refine ⟨_,rfl,?_⟩));go_ret;exact ⟨e1,dn⟩
 ·replace c5:=Bool.eq_false_iff.mpr c5;subst c5
  have H1:(some 0)=some r:=by rw [if_neg (show ¬ (false=true) by decide)] at H;exact H
  clear H;have H:=H1;clear H1;obtain rfl:=os H
  go_enter Try.func157,Try.ntmps157
  go_wp2_with (first|((with_reducible refine gate_callee (f:=177) rfl ?_);refine goesL_ (some 10) rfl rfl Try.func177 (by kernel_rfl) rfl #[.int .i64 a0,.int .i64 a1,.int .i64 a2] rfl ml ?_;(with_reducible refine (spec_l01Two.calls k a0 a1 a2 false _ A4.out).mono ?_);rintro e w' ⟨rfl,⟨nd,rfl⟩⟩;refine ⟨_,rfl,?_⟩));go_ret;exact ⟨e1,dn⟩
def spec_Shl.j0:Nat→Int→Int→Int→Bool→Option (Int)
 | 0,_,_,_,_=>none
 | k + 1,x0,x1,x2,x16=>if x16=true then (some 0) else ((spec_l01Pow2.f k x2).bind fun A1=>((spec_l01Pow2.f k x0).bind fun A0=>(if A0=0 then (none) else (some (Int.tmod (wrap64 (x1 * A1)) A0)))))
def spec_Shl.f (k:Nat) (a0:Int) (a1:Int) (a2:Int):Option (Int):=(spec_l01Two.f k a0 a1 a2).bind fun A3=>(if A3=true then (spec_Shl.j0 k a0 a1 a2 (decide (a2 ≥ a0))) else (spec_Shl.j0 k a0 a1 a2 true))
set_option maxHeartbeats 8000000 in
set_option maxRecDepth 100000 in
theorem spec_Shl.calls (k:Nat) (a0:Int) (a1:Int) (a2:Int) (r:Int) (w:World) (h:spec_Shl.f k a0 a1 a2=some r) :
  Calls Try.prog 158 #[.int .i64 a0,.int .i64 a1,.int .i64 a2] w fun e w'=>e = .returned (.int .i64 r)∧Drawn0 w w':=by
 have H:((spec_l01Two.f k a0 a1 a2).bind fun A3=>(if A3=true then (spec_Shl.j0 k a0 a1 a2 (decide (a2 ≥ a0))) else (spec_Shl.j0 k a0 a1 a2 true)))=some r:=h;clear h;have HC4:=Aside0.mk H;clear H
 go_enter Try.func158,Try.ntmps158
 go_upto_region 1 with (fail)
 go_cut [16] (fun v16 wc=>∃ (kq:Nat) (A2:Bool),v16 = .bool A2∧Aside0 (spec_Shl.j0 kq a0 a1 a2 A2=some r)∧Aside0 (kq≤k)∧Drawn0 w wc)
 case first =>
  have H:=HC4.out;clear HC4;replace H:=ob H;obtain ⟨A3,A50,H⟩:=H;replace H:(if A3=true then (spec_Shl.j0 k a0 a1 a2 (decide (a2 ≥ a0))) else (spec_Shl.j0 k a0 a1 a2 true))=some r:=H;have A5:=Aside0.mk A50;clear A50
  by_cases c6:A3=true
  ·subst c6
   have H1:(spec_Shl.j0 k a0 a1 a2 (decide (a2 ≥ a0)))=some r:=by rw [if_pos rfl] at H;exact H
   clear H;have H:=H1;clear H1;have H':=Aside0.mk H;clear H;go_wp2_with (first|((with_reducible refine gate_callee (f:=177) rfl ?_);refine goesL_ (some 10) rfl rfl Try.func177 (by kernel_rfl) rfl #[.int .i64 a0,.int .i64 a1,.int .i64 a2] rfl ml ?_;(with_reducible refine (spec_l01Two.calls k a0 a1 a2 true _ A5.out).mono ?_);rintro e w' ⟨rfl,⟨nd,rfl⟩⟩;refine ⟨_,rfl,?_⟩));go_meet
   case rel=>exact ⟨_,(decide (a2 ≥ a0)),(by first|rfl|(simp;done)|(simp [*];done)),H',⟨by first|omega|exact Nat.le_refl _⟩,by repeat (first|exact Drawn0.refl _|apply Drawn0.step)⟩
  ·replace c6:=Bool.eq_false_iff.mpr c6;subst c6
   have H1:(spec_Shl.j0 k a0 a1 a2 true)=some r:=by rw [if_neg (show ¬ (false=true) by decide)] at H;exact H
   clear H;have H:=H1;clear H1;have H':=Aside0.mk H;clear H;go_wp2_with (first|((with_reducible refine gate_callee (f:=177) rfl ?_);refine goesL_ (some 10) rfl rfl Try.func177 (by kernel_rfl) rfl #[.int .i64 a0,.int .i64 a1,.int .i64 a2] rfl ml ?_;(with_reducible refine (spec_l01Two.calls k a0 a1 a2 false _ A5.out).mono ?_);rintro e w' ⟨rfl,⟨nd,rfl⟩⟩;refine ⟨_,rfl,?_⟩));go_meet
   case rel=>exact ⟨_,(true),(by first|rfl|(simp;done)|(simp [*];done)),H',⟨by first|omega|exact Nat.le_refl _⟩,by repeat (first|exact Drawn0.refl _|apply Drawn0.step)⟩
 case rest =>
  clear HC4;(try clear c1);(try clear p2);(try clear c6);obtain ⟨kq,A2,rfl,HA,HJ3,⟨mc3,rfl⟩⟩:=hcut
  cases kq with
  | zero=>exact absurd HA.out (by simp [spec_Shl.j0])
  | succ kj3 =>
   have H:=HA.out;clear HA;simp only [spec_Shl.j0] at H
   by_cases c7:A2=true
   ·subst c7
    have H1:(some 0)=some r:=by rw [if_pos rfl] at H;exact H
    clear H;have H:=H1;clear H1;obtain rfl:=os H;go_wp2;go_ret;exact ⟨e1,dn⟩
   ·replace c7:=Bool.eq_false_iff.mpr c7;subst c7
    have H1:((spec_l01Pow2.f kj3 a2).bind fun A1=>((spec_l01Pow2.f kj3 a0).bind fun A0=>(if A0=0 then (none) else (some (Int.tmod (wrap64 (a1 * A1)) A0)))))=some r:=by rw [if_neg (show ¬ (false=true) by decide)] at H;exact H
    clear H;have H:=H1;clear H1;replace H:=ob H;obtain ⟨A1,A80,H⟩:=H;replace H:((spec_l01Pow2.f kj3 a0).bind fun A0=>(if A0=0 then (none) else (some (Int.tmod (wrap64 (a1 * A1)) A0))))=some r:=H;have A8:=Aside0.mk A80;clear A80;replace H:=ob H;obtain ⟨A0,A90,H⟩:=H;replace H:(if A0=0 then (none) else (some (Int.tmod (wrap64 (a1 * A1)) A0)))=some r:=H;have A9:=Aside0.mk A90;clear A90
    by_cases c10:A0=0
    ·rw [if_pos c10] at H;exact absurd H (by simp)
    ·rw [if_neg c10] at H;have c10b0:(A0 == 0)=false:=beq_eq_false_iff_ne.mpr c10;have c10b1:(A0 != 0)=true:=bne_iff_ne.mpr c10;obtain rfl:=os H;go_wp2_with (first|((with_reducible refine gate_callee (f:=70) rfl ?_);refine goesL_ (some 19) rfl rfl Try.func70 (by kernel_rfl) rfl #[.int .i64 a2] rfl ml ?_;(with_reducible refine (spec_l01Pow2.calls kj3 a2 A1 _ A8.out).mono ?_);rintro e w' ⟨rfl,⟨nd,rfl⟩⟩;refine ⟨_,rfl,?_⟩)|((with_reducible refine gate_callee (f:=70) rfl ?_);refine goesL_ (some 22) rfl rfl Try.func70 (by kernel_rfl) rfl #[.int .i64 a0] rfl ml ?_;(with_reducible refine (spec_l01Pow2.calls kj3 a0 A0 _ A9.out).mono ?_);rintro e w' ⟨rfl,⟨nd,rfl⟩⟩;refine ⟨_,rfl,?_⟩));go_ret;exact ⟨e1,dn⟩
def spec_Shr.f (k:Nat) (a0:Int) (a1:Int) (a2:Int):Option (Int):=(spec_l01Two.f k a0 a1 a2).bind fun A1=>(if A1=true then (if a2 ≥ a0 then (some 0) else ((spec_l01Pow2.f k a2).bind fun A0=>(if A0=0 then (none) else (some (wrap64 (Int.tdiv a1 A0)))))) else (some 0))
set_option maxHeartbeats 8000000 in
set_option maxRecDepth 100000 in
theorem spec_Shr.calls (k:Nat) (a0:Int) (a1:Int) (a2:Int) (r:Int) (w:World) (h:spec_Shr.f k a0 a1 a2=some r) :
  Calls Try.prog 159 #[.int .i64 a0,.int .i64 a1,.int .i64 a2] w fun e w'=>e = .returned (.int .i64 r)∧Drawn0 w w':=by
 have H:((spec_l01Two.f k a0 a1 a2).bind fun A1=>(if A1=true then (if a2 ≥ a0 then (some 0) else ((spec_l01Pow2.f k a2).bind fun A0=>(if A0=0 then (none) else (some (wrap64 (Int.tdiv a1 A0)))))) else (some 0)))=some r:=h;clear h;replace H:=ob H;obtain ⟨A1,A40,H⟩:=H;replace H:(if A1=true then (if a2 ≥ a0 then (some 0) else ((spec_l01Pow2.f k a2).bind fun A0=>(if A0=0 then (none) else (some (wrap64 (Int.tdiv a1 A0)))))) else (some 0))=some r:=H;have A4:=Aside0.mk A40;clear A40
 by_cases c5:A1=true
 ·subst c5
  have H1:(if a2 ≥ a0 then (some 0) else ((spec_l01Pow2.f k a2).bind fun A0=>(if A0=0 then (none) else (some (wrap64 (Int.tdiv a1 A0))))))=some r:=by rw [if_pos rfl] at H;exact H
  clear H;have H:=H1;clear H1
  by_cases c6:a2 ≥ a0
  ·rw [if_pos c6] at H;have c6b0:decide (a0≤a2)=true:=decide_eq_true c6;clear c6;obtain rfl:=os H
   go_enter Try.func159,Try.ntmps159
   go_wp2_with (first|((with_reducible refine gate_callee (f:=177) rfl ?_);refine goesL_ (some 10) rfl rfl Try.func177 (by kernel_rfl) rfl #[.int .i64 a0,.int .i64 a1,.int .i64 a2] rfl ml ?_;(with_reducible refine (spec_l01Two.calls k a0 a1 a2 true _ A4.out).mono ?_);rintro e w' ⟨rfl,⟨nd,rfl⟩⟩;refine ⟨_,rfl,?_⟩));go_ret;exact ⟨e1,dn⟩
  ·rw [if_neg c6] at H;have c6b0:decide (a0≤a2)=false:=decide_eq_false c6;clear c6;replace H:=ob H;obtain ⟨A0,A70,H⟩:=H;replace H:(if A0=0 then (none) else (some (wrap64 (Int.tdiv a1 A0))))=some r:=H;have A7:=Aside0.mk A70;clear A70
   by_cases c8:A0=0
   ·rw [if_pos c8] at H;exact absurd H (by simp)
   ·rw [if_neg c8] at H;have c8b0:(A0 == 0)=false:=beq_eq_false_iff_ne.mpr c8;have c8b1:(A0 != 0)=true:=bne_iff_ne.mpr c8;obtain rfl:=os H
    go_enter Try.func159,Try.ntmps159
    go_wp2_with (first|((with_reducible refine gate_callee (f:=177) rfl ?_);refine goesL_ (some 10) rfl rfl Try.func177 (by kernel_rfl) rfl #[.int .i64 a0,.int .i64 a1,.int .i64 a2] rfl ml ?_;(with_reducible refine (spec_l01Two.calls k a0 a1 a2 true _ A4.out).mono ?_);rintro e w' ⟨rfl,⟨nd,rfl⟩⟩;refine ⟨_,rfl,?_⟩)|((with_reducible refine gate_callee (f:=70) rfl ?_);refine goesL_ (some 19) rfl rfl Try.func70 (by kernel_rfl) rfl #[.int .i64 a2] rfl ml ?_;(with_reducible refine (spec_l01Pow2.calls k a2 A0 _ A7.out).mono ?_);rintro e w' ⟨rfl,⟨nd,rfl⟩⟩;refine ⟨_,rfl,?_⟩));go_ret;exact ⟨e1,dn⟩
 ·replace c5:=Bool.eq_false_iff.mpr c5;subst c5
  have H1:(some 0)=some r:=by rw [if_neg (show ¬ (false=true) by decide)] at H;exact H
  clear H;have H:=H1;clear H1;obtain rfl:=os H
  go_enter Try.func159,Try.ntmps159
  go_wp2_with (first|((with_reducible refine gate_callee (f:=177) rfl ?_);refine goesL_ (some 10) rfl rfl Try.func177 (by kernel_rfl) rfl #[.int .i64 a0,.int .i64 a1,.int .i64 a2] rfl ml ?_;(with_reducible refine (spec_l01Two.calls k a0 a1 a2 false _ A4.out).mono ?_);rintro e w' ⟨rfl,⟨nd,rfl⟩⟩;refine ⟨_,rfl,?_⟩));go_ret;exact ⟨e1,dn⟩
def spec_Slice.j0:Nat→Int→Int→Int→Bool→Option (Int)
 | 0,_,_,_,_=>none
 | k + 1,x1,x2,x3,x24=>if x24=true then (some 0) else ((spec_l01Pow2.f k x2).bind fun A1=>(if A1=0 then (none) else ((spec_l01Pow2.f k x3).bind fun A0=>(if A0=0 then (none) else (some (Int.tmod (wrap64 (Int.tdiv x1 A1)) A0))))))
def spec_Slice.f (k:Nat) (a0:Int) (a1:Int) (a2:Int) (a3:Int):Option (Int):=(spec_WordOk.f k a0 a1).bind fun A4=>(if A4=true then (if a2 < 0 then (spec_Slice.j0 k a1 a2 a3 true) else ((spec_l01In.f a3 1 (wrap64 (a0 - a2))).bind fun A2=>(spec_Slice.j0 k a1 a2 a3 (!A2)))) else (spec_Slice.j0 k a1 a2 a3 true))
set_option maxHeartbeats 8000000 in
set_option maxRecDepth 100000 in
theorem spec_Slice.calls (k:Nat) (a0:Int) (a1:Int) (a2:Int) (a3:Int) (r:Int) (w:World) (h:spec_Slice.f k a0 a1 a2 a3=some r) :
  Calls Try.prog 163 #[.int .i64 a0,.int .i64 a1,.int .i64 a2,.int .i64 a3] w fun e w'=>e = .returned (.int .i64 r)∧Drawn0 w w':=by
 have H:((spec_WordOk.f k a0 a1).bind fun A4=>(if A4=true then (if a2 < 0 then (spec_Slice.j0 k a1 a2 a3 true) else ((spec_l01In.f a3 1 (wrap64 (a0 - a2))).bind fun A2=>(spec_Slice.j0 k a1 a2 a3 (!A2)))) else (spec_Slice.j0 k a1 a2 a3 true)))=some r:=h;clear h;have HC5:=Aside0.mk H;clear H
 go_enter Try.func163,Try.ntmps163
 go_upto_region 1 with (fail)
 repeat (go_quiet (fail);go_upto_region 1 with (fail))
 go_cut [24] (fun v24 wc=>∃ (kq:Nat) (A3:Bool),v24 = .bool A3∧Aside0 (spec_Slice.j0 kq a1 a2 a3 A3=some r)∧Aside0 (kq≤k)∧Drawn0 w wc)
 case first =>
  have H:=HC5.out;clear HC5;replace H:=ob H;obtain ⟨A4,A60,H⟩:=H;replace H:(if A4=true then (if a2 < 0 then (spec_Slice.j0 k a1 a2 a3 true) else ((spec_l01In.f a3 1 (wrap64 (a0 - a2))).bind fun A2=>(spec_Slice.j0 k a1 a2 a3 (!A2)))) else (spec_Slice.j0 k a1 a2 a3 true))=some r:=H;have A6:=Aside0.mk A60;clear A60
  by_cases c7:A4=true
  ·subst c7
   have H1:(if a2 < 0 then (spec_Slice.j0 k a1 a2 a3 true) else ((spec_l01In.f a3 1 (wrap64 (a0 - a2))).bind fun A2=>(spec_Slice.j0 k a1 a2 a3 (!A2))))=some r:=by rw [if_pos rfl] at H;exact H
   clear H;have H:=H1;clear H1
   by_cases c8:a2 < 0
   ·rw [if_pos c8] at H;have c8b0:decide (a2 < 0)=true:=decide_eq_true c8;clear c8;(first|rw [c8b0]|(simp only [i64_w,i32_w];rw [c8b0])|skip);have H':=Aside0.mk H;clear H;go_wp2_with (first|(go_at_call 131;(try simp only [i64_w,i32_w]);(with_reducible refine (spec_WordOk.calls k a0 a1 true _ A6.out).mono ?_);rintro e w' ⟨rfl,⟨nd,rfl⟩⟩;(try exact dd)))
    repeat (go_quiet (first|(go_at_call 131;(try simp only [i64_w,i32_w]);(with_reducible refine (spec_WordOk.calls k a0 a1 true _ A6.out).mono ?_);rintro e w' ⟨rfl,⟨nd,rfl⟩⟩;(try exact dd)));try go_wp2_with (first|(go_at_call 131;(try simp only [i64_w,i32_w]);(with_reducible refine (spec_WordOk.calls k a0 a1 true _ A6.out).mono ?_);rintro e w' ⟨rfl,⟨nd,rfl⟩⟩;(try exact dd))))
    go_meet
    case rel=>exact ⟨_,(true),(by first|rfl|(simp;done)|(simp [*];done)),H',⟨by first|omega|exact Nat.le_refl _⟩,by repeat (first|exact Drawn0.refl _|apply Drawn0.step)⟩
   ·rw [if_neg c8] at H;have c8b0:decide (a2 < 0)=false:=decide_eq_false c8;clear c8;(first|rw [c8b0]|(simp only [i64_w,i32_w];rw [c8b0])|skip);replace H:=ob H;obtain ⟨A2,A90,H⟩:=H;replace H:(spec_Slice.j0 k a1 a2 a3 (!A2))=some r:=H;have A9:=Aside0.mk A90;clear A90;have H':=Aside0.mk H;clear H;go_wp2_with (first|(go_at_call 131;(try simp only [i64_w,i32_w]);(with_reducible refine (spec_WordOk.calls k a0 a1 true _ A6.out).mono ?_);rintro e w' ⟨rfl,⟨nd,rfl⟩⟩;(try exact dd))|(go_at_call 69;(try simp only [i64_w,i32_w]);(with_reducible refine (spec_l01In.calls a3 1 (wrap64 (a0 - a2)) A2 _ A9.out).mono ?_);rintro e w' ⟨rfl,⟨nd,rfl⟩⟩;(try exact dd)))
    repeat (go_quiet (first|(go_at_call 131;(try simp only [i64_w,i32_w]);(with_reducible refine (spec_WordOk.calls k a0 a1 true _ A6.out).mono ?_);rintro e w' ⟨rfl,⟨nd,rfl⟩⟩;(try exact dd))|(go_at_call 69;(try simp only [i64_w,i32_w]);(with_reducible refine (spec_l01In.calls a3 1 (wrap64 (a0 - a2)) A2 _ A9.out).mono ?_);rintro e w' ⟨rfl,⟨nd,rfl⟩⟩;(try exact dd)));try go_wp2_with (first|(go_at_call 131;(try simp only [i64_w,i32_w]);(with_reducible refine (spec_WordOk.calls k a0 a1 true _ A6.out).mono ?_);rintro e w' ⟨rfl,⟨nd,rfl⟩⟩;(try exact dd))|(go_at_call 69;(try simp only [i64_w,i32_w]);(with_reducible refine (spec_l01In.calls a3 1 (wrap64 (a0 - a2)) A2 _ A9.out).mono ?_);rintro e w' ⟨rfl,⟨nd,rfl⟩⟩;(try exact dd))))
    go_meet
    case rel=>exact ⟨_,(!A2),(by first|rfl|(simp;done)|(simp [*];done)),H',⟨by first|omega|exact Nat.le_refl _⟩,by repeat (first|exact Drawn0.refl _|apply Drawn0.step)⟩
  ·replace c7:=Bool.eq_false_iff.mpr c7;subst c7
   have H1:(spec_Slice.j0 k a1 a2 a3 true)=some r:=by rw [if_neg (show ¬ (false=true) by decide)] at H;exact H
   clear H;have H:=H1;clear H1;have H':=Aside0.mk H;clear H;go_wp2_with (first|(go_at_call 131;(try simp only [i64_w,i32_w]);(with_reducible refine (spec_WordOk.calls k a0 a1 false _ A6.out).mono ?_);rintro e w' ⟨rfl,⟨nd,rfl⟩⟩;(try exact dd)))
   repeat (go_quiet (first|(go_at_call 131;(try simp only [i64_w,i32_w]);(with_reducible refine (spec_WordOk.calls k a0 a1 false _ A6.out).mono ?_);rintro e w' ⟨rfl,⟨nd,rfl⟩⟩;(try exact dd)));try go_wp2_with (first|(go_at_call 131;(try simp only [i64_w,i32_w]);(with_reducible refine (spec_WordOk.calls k a0 a1 false _ A6.out).mono ?_);rintro e w' ⟨rfl,⟨nd,rfl⟩⟩;(try exact dd))))
   go_meet
   case rel=>exact ⟨_,(true),(by first|rfl|(simp;done)|(simp [*];done)),H',⟨by first|omega|exact Nat.le_refl _⟩,by repeat (first|exact Drawn0.refl _|apply Drawn0.step)⟩
 case rest =>
  clear HC5;(try clear c1);(try clear p2);(try clear p6);(try clear c7);(try clear c8);(try clear c8b0);obtain ⟨kq,A3,rfl,HA,HJ4,⟨mc4,rfl⟩⟩:=hcut
  cases kq with
  | zero=>exact absurd HA.out (by simp [spec_Slice.j0])
  | succ kj4 =>
   have H:=HA.out;clear HA;simp only [spec_Slice.j0] at H
   by_cases c10:A3=true
   ·subst c10
    have H1:(some 0)=some r:=by rw [if_pos rfl] at H;exact H
    clear H;have H:=H1;clear H1;obtain rfl:=os H;go_wp2
    repeat (go_quiet (fail);try go_wp2)
    go_ret;exact ⟨e1,dn⟩
   ·replace c10:=Bool.eq_false_iff.mpr c10;subst c10
    have H1:((spec_l01Pow2.f kj4 a2).bind fun A1=>(if A1=0 then (none) else ((spec_l01Pow2.f kj4 a3).bind fun A0=>(if A0=0 then (none) else (some (Int.tmod (wrap64 (Int.tdiv a1 A1)) A0))))))=some r:=by rw [if_neg (show ¬ (false=true) by decide)] at H;exact H
    clear H;have H:=H1;clear H1;replace H:=ob H;obtain ⟨A1,A110,H⟩:=H;replace H:(if A1=0 then (none) else ((spec_l01Pow2.f kj4 a3).bind fun A0=>(if A0=0 then (none) else (some (Int.tmod (wrap64 (Int.tdiv a1 A1)) A0)))))=some r:=H;have A11:=Aside0.mk A110;clear A110
    by_cases c12:A1=0
    ·rw [if_pos c12] at H;exact absurd H (by simp)
    ·rw [if_neg c12] at H;have c12b0:(A1 == 0)=false:=beq_eq_false_iff_ne.mpr c12;have c12b1:(A1 != 0)=true:=bne_iff_ne.mpr c12;replace H:=ob H;obtain ⟨A0,A130,H⟩:=H;replace H:(if A0=0 then (none) else (some (Int.tmod (wrap64 (Int.tdiv a1 A1)) A0)))=some r:=H;have A13:=Aside0.mk A130;clear A130
     by_cases c14:A0=0
     ·rw [if_pos c14] at H;exact absurd H (by simp)
     ·rw [if_neg c14] at H;have c14b0:(A0 == 0)=false:=beq_eq_false_iff_ne.mpr c14;have c14b1:(A0 != 0)=true:=bne_iff_ne.mpr c14;obtain rfl:=os H;go_wp2_with (first|(go_at_call 70;(try simp only [i64_w,i32_w]);(with_reducible refine (spec_l01Pow2.calls kj4 a2 A1 _ A11.out).mono ?_);rintro e w' ⟨rfl,⟨nd,rfl⟩⟩;(try exact dd))|(go_at_call 70;(try simp only [i64_w,i32_w]);(with_reducible refine (spec_l01Pow2.calls kj4 a3 A0 _ A13.out).mono ?_);rintro e w' ⟨rfl,⟨nd,rfl⟩⟩;(try exact dd)))
      repeat (go_quiet (first|(go_at_call 70;(try simp only [i64_w,i32_w]);(with_reducible refine (spec_l01Pow2.calls kj4 a2 A1 _ A11.out).mono ?_);rintro e w' ⟨rfl,⟨nd,rfl⟩⟩;(try exact dd))|(go_at_call 70;(try simp only [i64_w,i32_w]);(with_reducible refine (spec_l01Pow2.calls kj4 a3 A0 _ A13.out).mono ?_);rintro e w' ⟨rfl,⟨nd,rfl⟩⟩;(try exact dd)));try go_wp2_with (first|(go_at_call 70;(try simp only [i64_w,i32_w]);(with_reducible refine (spec_l01Pow2.calls kj4 a2 A1 _ A11.out).mono ?_);rintro e w' ⟨rfl,⟨nd,rfl⟩⟩;(try exact dd))|(go_at_call 70;(try simp only [i64_w,i32_w]);(with_reducible refine (spec_l01Pow2.calls kj4 a3 A0 _ A13.out).mono ?_);rintro e w' ⟨rfl,⟨nd,rfl⟩⟩;(try exact dd))))
      go_ret;exact ⟨e1,dn⟩
def spec_Sub.f (k:Nat) (a0:Int) (a1:Int) (a2:Int):Option (Int):=(spec_l01Two.f k a0 a1 a2).bind fun A2=>(if A2=true then ((spec_l01Pow2.f k a0).bind fun A1=>((spec_l01Pow2.f k a0).bind fun A0=>(if A0=0 then (none) else (some (Int.tmod (wrap64 ((wrap64 (a1 + A1)) - a2)) A0))))) else (some 0))
set_option maxHeartbeats 8000000 in
set_option maxRecDepth 100000 in
theorem spec_Sub.calls (k:Nat) (a0:Int) (a1:Int) (a2:Int) (r:Int) (w:World) (h:spec_Sub.f k a0 a1 a2=some r) :
  Calls Try.prog 154 #[.int .i64 a0,.int .i64 a1,.int .i64 a2] w fun e w'=>e = .returned (.int .i64 r)∧Drawn0 w w':=by
 have H:((spec_l01Two.f k a0 a1 a2).bind fun A2=>(if A2=true then ((spec_l01Pow2.f k a0).bind fun A1=>((spec_l01Pow2.f k a0).bind fun A0=>(if A0=0 then (none) else (some (Int.tmod (wrap64 ((wrap64 (a1 + A1)) - a2)) A0))))) else (some 0)))=some r:=h;clear h;replace H:=ob H;obtain ⟨A2,A40,H⟩:=H;replace H:(if A2=true then ((spec_l01Pow2.f k a0).bind fun A1=>((spec_l01Pow2.f k a0).bind fun A0=>(if A0=0 then (none) else (some (Int.tmod (wrap64 ((wrap64 (a1 + A1)) - a2)) A0))))) else (some 0))=some r:=H;have A4:=Aside0.mk A40;clear A40
 by_cases c5:A2=true
 ·subst c5
  have H1:((spec_l01Pow2.f k a0).bind fun A1=>((spec_l01Pow2.f k a0).bind fun A0=>(if A0=0 then (none) else (some (Int.tmod (wrap64 ((wrap64 (a1 + A1)) - a2)) A0)))))=some r:=by rw [if_pos rfl] at H;exact H
  clear H;have H:=H1;clear H1;replace H:=ob H;obtain ⟨A1,A60,H⟩:=H;replace H:((spec_l01Pow2.f k a0).bind fun A0=>(if A0=0 then (none) else (some (Int.tmod (wrap64 ((wrap64 (a1 + A1)) - a2)) A0))))=some r:=H;have A6:=Aside0.mk A60;clear A60;replace H:=ob H;obtain ⟨A0,A70,H⟩:=H;replace H:(if A0=0 then (none) else (some (Int.tmod (wrap64 ((wrap64 (a1 + A1)) - a2)) A0)))=some r:=H;have A7:=Aside0.mk A70;clear A70
  by_cases c8:A0=0
  ·rw [if_pos c8] at H;exact absurd H (by simp)
  ·rw [if_neg c8] at H;have c8b0:(A0 == 0)=false:=beq_eq_false_iff_ne.mpr c8;have c8b1:(A0 != 0)=true:=bne_iff_ne.mpr c8;obtain rfl:=os H
   go_enter Try.func154,Try.ntmps154
   go_wp2_with (first|((with_reducible refine gate_callee (f:=177) rfl ?_);refine goesL_ (some 10) rfl rfl Try.func177 (by kernel_rfl) rfl #[.int .i64 a0,.int .i64 a1,.int .i64 a2] rfl ml ?_;(with_reducible refine (spec_l01Two.calls k a0 a1 a2 true _ A4.out).mono ?_);rintro e w' ⟨rfl,⟨nd,rfl⟩⟩;refine ⟨_,rfl,?_⟩)|((with_reducible refine gate_callee (f:=70) rfl ?_);refine goesL_ (some 14) rfl rfl Try.func70 (by kernel_rfl) rfl #[.int .i64 a0] rfl ml ?_;(with_reducible refine (spec_l01Pow2.calls k a0 A1 _ A6.out).mono ?_);rintro e w' ⟨rfl,⟨nd,rfl⟩⟩;refine ⟨_,rfl,?_⟩)|((with_reducible refine gate_callee (f:=70) rfl ?_);refine goesL_ (some 19) rfl rfl Try.func70 (by kernel_rfl) rfl #[.int .i64 a0] rfl ml ?_;(with_reducible refine (spec_l01Pow2.calls k a0 A0 _ A7.out).mono ?_);rintro e w' ⟨rfl,⟨nd,rfl⟩⟩;refine ⟨_,rfl,?_⟩));go_ret;exact ⟨e1,dn⟩
 ·replace c5:=Bool.eq_false_iff.mpr c5;subst c5
  have H1:(some 0)=some r:=by rw [if_neg (show ¬ (false=true) by decide)] at H;exact H
  clear H;have H:=H1;clear H1;obtain rfl:=os H
  go_enter Try.func154,Try.ntmps154
  go_wp2_with (first|((with_reducible refine gate_callee (f:=177) rfl ?_);refine goesL_ (some 10) rfl rfl Try.func177 (by kernel_rfl) rfl #[.int .i64 a0,.int .i64 a1,.int .i64 a2] rfl ml ?_;(with_reducible refine (spec_l01Two.calls k a0 a1 a2 false _ A4.out).mono ?_);rintro e w' ⟨rfl,⟨nd,rfl⟩⟩;refine ⟨_,rfl,?_⟩));go_ret;exact ⟨e1,dn⟩
def spec_Apply.j0:Nat→Int→Int→Int→Int→Bool→Int→Int→Int→Int→Int→Int→Option (Int)
 | 0,_,_,_,_,_,_,_,_,_,_,_=>none
 | k + 1,x1,x2,x3,x4,x34,x102000,x102001,x102002,x102003,x102004,x102005=>if x34=true then (some 0) else (if x102000=0 then (some x102002) else (if x102000=2 then ((spec_Flip.f k x102001 x2).bind fun Ad=>(some Ad)) else (if x102000=3 then (some (Go.bits .and .i64 x2 x3)) else (if x102000=4 then (some (Go.bits .or .i64 x2 x3)) else (if x102000=5 then (some (Go.bits .xor .i64 x2 x3)) else (if x102000=6 then ((spec_Add.f k x102001 x2 x3).bind fun Ae=>(some Ae)) else (if x102000=7 then ((spec_Sub.f k x102001 x2 x3).bind fun Af=>(some Af)) else (if x102000=8 then ((spec_Mul.f k x102001 x2 x3).bind fun Ag=>(some Ag)) else (if x102000=9 then ((spec_Div.f k x102001 x2 x3).bind fun Ah=>(some Ah)) else (if x102000=10 then ((spec_Rem.f k x102001 x2 x3).bind fun Ai=>(some Ai)) else (if x102000=11 then ((spec_Shl.f k x102001 x2 x3).bind fun Aj=>(some Aj)) else (if x102000=12 then ((spec_Shr.f k x102001 x2 x3).bind fun Ak=>(some Ak)) else (if x102000=13 then ((spec_l01Bool.f (x2 == x3)).bind fun Al=>(some Al)) else (if x102000=14 then ((spec_Less.f k x1 x2 x3).bind fun Am=>(some Am)) else (if x102000=15 then ((spec_LessSigned.f k x1 x2 x3).bind fun An=>(some An)) else (if x102000=16 then (if x102001 < x1 then (some x3) else ((spec_l01Pow2.f k (wrap64 (x102001 - x1))).bind fun Ao=>(some (wrap64 ((wrap64 (x2 * Ao)) + x3))))) else (if x102000=17 then ((spec_Slice.f k x1 x2 x102002 x102001).bind fun Ap=>(some Ap)) else (if x102000=18 then (if x2=1 then (some x3) else (some x4)) else (some 0)))))))))))))))))))
def spec_Apply.f (k:Nat) (A0:Int) (A1:Int) (A3:Int) (A4:Int) (A5:Int) (A6:Int) (a1:Int) (a2:Int) (a3:Int) (a4:Int):Option (Int):=(spec_l01In.f A1 1 8).bind fun Aq=>(if Aq=true then ((spec_l01In.f a1 1 8).bind fun Ab=>(if Ab=true then ((spec_l01In.f a2 0 255).bind fun Aa=>(if Aa=true then ((spec_l01In.f a3 0 255).bind fun A9=>(if A9=true then ((spec_l01In.f a4 0 255).bind fun A7=>(spec_Apply.j0 k a1 a2 a3 a4 (!A7) A0 A1 A3 A4 A5 A6)) else (spec_Apply.j0 k a1 a2 a3 a4 true A0 A1 A3 A4 A5 A6))) else (spec_Apply.j0 k a1 a2 a3 a4 true A0 A1 A3 A4 A5 A6))) else (spec_Apply.j0 k a1 a2 a3 a4 true A0 A1 A3 A4 A5 A6))) else (spec_Apply.j0 k a1 a2 a3 a4 true A0 A1 A3 A4 A5 A6))
set_option maxHeartbeats 8000000 in
set_option maxRecDepth 100000 in
theorem spec_Apply.calls (k:Nat) (A0:Int) (A1:Int) (A3:Int) (A4:Int) (A5:Int) (A6:Int) (a1:Int) (a2:Int) (a3:Int) (a4:Int) (r:Int) (w:World) (h:spec_Apply.f k A0 A1 A3 A4 A5 A6 a1 a2 a3 a4=some r) :
  Calls Try.prog 135 #[.agg #[.int .i64 A0,.int .i64 A1,.int .i64 A3,.int .i64 A4,.int .i64 A5,.int .i64 A6],.int .i64 a1,.int .i64 a2,.int .i64 a3,.int .i64 a4] w fun e w'=>e = .returned (.int .i64 r)∧Below w.heap.size w w':=by
 have hu99:=Try.underlying99;have HB:=Aside0.mk (Below.refl w.heap.size w);have H:((spec_l01In.f A1 1 8).bind fun Aq=>(if Aq=true then ((spec_l01In.f a1 1 8).bind fun Ab=>(if Ab=true then ((spec_l01In.f a2 0 255).bind fun Aa=>(if Aa=true then ((spec_l01In.f a3 0 255).bind fun A9=>(if A9=true then ((spec_l01In.f a4 0 255).bind fun A7=>(spec_Apply.j0 k a1 a2 a3 a4 (!A7) A0 A1 A3 A4 A5 A6)) else (spec_Apply.j0 k a1 a2 a3 a4 true A0 A1 A3 A4 A5 A6))) else (spec_Apply.j0 k a1 a2 a3 a4 true A0 A1 A3 A4 A5 A6))) else (spec_Apply.j0 k a1 a2 a3 a4 true A0 A1 A3 A4 A5 A6))) else (spec_Apply.j0 k a1 a2 a3 a4 true A0 A1 A3 A4 A5 A6)))=some r:=h;clear h;have HC6:=Aside0.mk H;clear H
 go_enter Try.func135,Try.ntmps135
 go_upto_region 1 with (first|((with_reducible refine gate_dst (N:=5) rfl ?_);refine bx (N:=5) (cs:=#[.int .i64 A0,.int .i64 A1,.int .i64 A3,.int .i64 A4,.int .i64 A5,.int .i64 A6]) (t:=99) ?_;intro Ar hg w7 hbox hb;have A2:=Aside0.mk (hbox);have GW101:=Aside0.mk ((by rw [hg];exact (below_size (tb HB)):w.heap.size≤Ar));have GE101:=Aside0.mk ((by rw [hg];exact (below_size (tb HB)):w.heap.size≤Ar));replace HB:=Aside0.mk (below_step (tb HB) hb);clear hb hbox hg))
 (try simp only [Act.put,List.setIfInBounds_toArray,List.set_cons_zero,List.set_cons_succ])
 go_cut [34] (fun v34 wc=>∃ (kq:Nat) (Ac:Bool),v34 = .bool Ac∧Aside0 (spec_Apply.j0 kq a1 a2 a3 a4 Ac A0 A1 A3 A4 A5 A6=some r)∧Aside0 (kq≤k)∧Aside0 (wc.heap[Ar]? = some (.cells #[.int .i64 A0,.int .i64 A1,.int .i64 A3,.int .i64 A4,.int .i64 A5,.int .i64 A6] 99 (0,0)))∧Aside0 (Below w.heap.size w wc))
 case first =>
  have H:=HC6.out;clear HC6;replace H:=ob H;obtain ⟨Aq,A80,H⟩:=H;replace H:(if Aq=true then ((spec_l01In.f a1 1 8).bind fun Ab=>(if Ab=true then ((spec_l01In.f a2 0 255).bind fun Aa=>(if Aa=true then ((spec_l01In.f a3 0 255).bind fun A9=>(if A9=true then ((spec_l01In.f a4 0 255).bind fun A7=>(spec_Apply.j0 k a1 a2 a3 a4 (!A7) A0 A1 A3 A4 A5 A6)) else (spec_Apply.j0 k a1 a2 a3 a4 true A0 A1 A3 A4 A5 A6))) else (spec_Apply.j0 k a1 a2 a3 a4 true A0 A1 A3 A4 A5 A6))) else (spec_Apply.j0 k a1 a2 a3 a4 true A0 A1 A3 A4 A5 A6))) else (spec_Apply.j0 k a1 a2 a3 a4 true A0 A1 A3 A4 A5 A6))=some r:=H;have A8:=Aside0.mk A80;clear A80
  by_cases c9:Aq=true
  ·subst c9
   have H1:((spec_l01In.f a1 1 8).bind fun Ab=>(if Ab=true then ((spec_l01In.f a2 0 255).bind fun Aa=>(if Aa=true then ((spec_l01In.f a3 0 255).bind fun A9=>(if A9=true then ((spec_l01In.f a4 0 255).bind fun A7=>(spec_Apply.j0 k a1 a2 a3 a4 (!A7) A0 A1 A3 A4 A5 A6)) else (spec_Apply.j0 k a1 a2 a3 a4 true A0 A1 A3 A4 A5 A6))) else (spec_Apply.j0 k a1 a2 a3 a4 true A0 A1 A3 A4 A5 A6))) else (spec_Apply.j0 k a1 a2 a3 a4 true A0 A1 A3 A4 A5 A6)))=some r:=by rw [if_pos rfl] at H;exact H
   clear H;have H:=H1;clear H1;replace H:=ob H;obtain ⟨Ab,A100,H⟩:=H;replace H:(if Ab=true then ((spec_l01In.f a2 0 255).bind fun Aa=>(if Aa=true then ((spec_l01In.f a3 0 255).bind fun A9=>(if A9=true then ((spec_l01In.f a4 0 255).bind fun A7=>(spec_Apply.j0 k a1 a2 a3 a4 (!A7) A0 A1 A3 A4 A5 A6)) else (spec_Apply.j0 k a1 a2 a3 a4 true A0 A1 A3 A4 A5 A6))) else (spec_Apply.j0 k a1 a2 a3 a4 true A0 A1 A3 A4 A5 A6))) else (spec_Apply.j0 k a1 a2 a3 a4 true A0 A1 A3 A4 A5 A6))=some r:=H;have A10:=Aside0.mk A100;clear A100
   by_cases c11:Ab=true
   ·subst c11
    have H1:((spec_l01In.f a2 0 255).bind fun Aa=>(if Aa=true then ((spec_l01In.f a3 0 255).bind fun A9=>(if A9=true then ((spec_l01In.f a4 0 255).bind fun A7=>(spec_Apply.j0 k a1 a2 a3 a4 (!A7) A0 A1 A3 A4 A5 A6)) else (spec_Apply.j0 k a1 a2 a3 a4 true A0 A1 A3 A4 A5 A6))) else (spec_Apply.j0 k a1 a2 a3 a4 true A0 A1 A3 A4 A5 A6)))=some r:=by rw [if_pos rfl] at H;exact H
    clear H;have H:=H1;clear H1;replace H:=ob H;obtain ⟨Aa,A120,H⟩:=H;replace H:(if Aa=true then ((spec_l01In.f a3 0 255).bind fun A9=>(if A9=true then ((spec_l01In.f a4 0 255).bind fun A7=>(spec_Apply.j0 k a1 a2 a3 a4 (!A7) A0 A1 A3 A4 A5 A6)) else (spec_Apply.j0 k a1 a2 a3 a4 true A0 A1 A3 A4 A5 A6))) else (spec_Apply.j0 k a1 a2 a3 a4 true A0 A1 A3 A4 A5 A6))=some r:=H;have A12:=Aside0.mk A120;clear A120
    by_cases c13:Aa=true
    ·subst c13
     have H1:((spec_l01In.f a3 0 255).bind fun A9=>(if A9=true then ((spec_l01In.f a4 0 255).bind fun A7=>(spec_Apply.j0 k a1 a2 a3 a4 (!A7) A0 A1 A3 A4 A5 A6)) else (spec_Apply.j0 k a1 a2 a3 a4 true A0 A1 A3 A4 A5 A6)))=some r:=by rw [if_pos rfl] at H;exact H
     clear H;have H:=H1;clear H1;replace H:=ob H;obtain ⟨A9,A140,H⟩:=H;replace H:(if A9=true then ((spec_l01In.f a4 0 255).bind fun A7=>(spec_Apply.j0 k a1 a2 a3 a4 (!A7) A0 A1 A3 A4 A5 A6)) else (spec_Apply.j0 k a1 a2 a3 a4 true A0 A1 A3 A4 A5 A6))=some r:=H;have A14:=Aside0.mk A140;clear A140
     by_cases c15:A9=true
     ·subst c15
      have H1:((spec_l01In.f a4 0 255).bind fun A7=>(spec_Apply.j0 k a1 a2 a3 a4 (!A7) A0 A1 A3 A4 A5 A6))=some r:=by rw [if_pos rfl] at H;exact H
      clear H;have H:=H1;clear H1;replace H:=ob H;obtain ⟨A7,A160,H⟩:=H;replace H:(spec_Apply.j0 k a1 a2 a3 a4 (!A7) A0 A1 A3 A4 A5 A6)=some r:=H;have A16:=Aside0.mk A160;clear A160;have H':=Aside0.mk H;clear H;have hcz17__:=c6_ A2;have hfz17__:=f_ A2;go_wp2_with (first|((with_reducible refine gate_callee (f:=69) rfl ?_);refine goesL_ (some 13) rfl rfl Try.func69 (by kernel_rfl) rfl #[.int .i64 A1,.int .i64 1,.int .i64 8] rfl ml ?_;(with_reducible refine (spec_l01In.calls A1 1 8 true _ A8.out).mono ?_);rintro e w' ⟨rfl,⟨nd,rfl⟩⟩;refine ⟨_,rfl,?_⟩)|(go_at_call 69;(try simp only [i64_w,i32_w]);(with_reducible refine (spec_l01In.calls a1 1 8 true _ A10.out).mono ?_);rintro e w' ⟨rfl,⟨nd,rfl⟩⟩)|(go_at_call 69;(try simp only [i64_w,i32_w]);(with_reducible refine (spec_l01In.calls a2 0 255 true _ A12.out).mono ?_);rintro e w' ⟨rfl,⟨nd,rfl⟩⟩)|(go_at_call 69;(try simp only [i64_w,i32_w]);(with_reducible refine (spec_l01In.calls a3 0 255 true _ A14.out).mono ?_);rintro e w' ⟨rfl,⟨nd,rfl⟩⟩)|(go_at_call 69;(try simp only [i64_w,i32_w]);(with_reducible refine (spec_l01In.calls a4 0 255 A7 _ A16.out).mono ?_);rintro e w' ⟨rfl,⟨nd,rfl⟩⟩));go_meet
      case rel=>exact ⟨_,(!A7),(by first|rfl|(simp;done)|(simp [*];done)),H',⟨by first|omega|exact Nat.le_refl _⟩,⟨dr A2⟩,⟨by exact tb HB⟩⟩
     ·replace c15:=Bool.eq_false_iff.mpr c15;subst c15
      have H1:(spec_Apply.j0 k a1 a2 a3 a4 true A0 A1 A3 A4 A5 A6)=some r:=by rw [if_neg (show ¬ (false=true) by decide)] at H;exact H
      clear H;have H:=H1;clear H1;have H':=Aside0.mk H;clear H;have hcz18__:=c6_ A2;have hfz18__:=f_ A2;go_wp2_with (first|((with_reducible refine gate_callee (f:=69) rfl ?_);refine goesL_ (some 13) rfl rfl Try.func69 (by kernel_rfl) rfl #[.int .i64 A1,.int .i64 1,.int .i64 8] rfl ml ?_;(with_reducible refine (spec_l01In.calls A1 1 8 true _ A8.out).mono ?_);rintro e w' ⟨rfl,⟨nd,rfl⟩⟩;refine ⟨_,rfl,?_⟩)|(go_at_call 69;(try simp only [i64_w,i32_w]);(with_reducible refine (spec_l01In.calls a1 1 8 true _ A10.out).mono ?_);rintro e w' ⟨rfl,⟨nd,rfl⟩⟩)|(go_at_call 69;(try simp only [i64_w,i32_w]);(with_reducible refine (spec_l01In.calls a2 0 255 true _ A12.out).mono ?_);rintro e w' ⟨rfl,⟨nd,rfl⟩⟩)|(go_at_call 69;(try simp only [i64_w,i32_w]);(with_reducible refine (spec_l01In.calls a3 0 255 false _ A14.out).mono ?_);rintro e w' ⟨rfl,⟨nd,rfl⟩⟩));go_meet
      case rel=>exact ⟨_,(true),(by first|rfl|(simp;done)|(simp [*];done)),H',⟨by first|omega|exact Nat.le_refl _⟩,⟨dr A2⟩,⟨by exact tb HB⟩⟩
    ·replace c13:=Bool.eq_false_iff.mpr c13;subst c13
     have H1:(spec_Apply.j0 k a1 a2 a3 a4 true A0 A1 A3 A4 A5 A6)=some r:=by rw [if_neg (show ¬ (false=true) by decide)] at H;exact H
     clear H;have H:=H1;clear H1;have H':=Aside0.mk H;clear H;have hcz19__:=c6_ A2;have hfz19__:=f_ A2;go_wp2_with (first|((with_reducible refine gate_callee (f:=69) rfl ?_);refine goesL_ (some 13) rfl rfl Try.func69 (by kernel_rfl) rfl #[.int .i64 A1,.int .i64 1,.int .i64 8] rfl ml ?_;(with_reducible refine (spec_l01In.calls A1 1 8 true _ A8.out).mono ?_);rintro e w' ⟨rfl,⟨nd,rfl⟩⟩;refine ⟨_,rfl,?_⟩)|(go_at_call 69;(try simp only [i64_w,i32_w]);(with_reducible refine (spec_l01In.calls a1 1 8 true _ A10.out).mono ?_);rintro e w' ⟨rfl,⟨nd,rfl⟩⟩)|(go_at_call 69;(try simp only [i64_w,i32_w]);(with_reducible refine (spec_l01In.calls a2 0 255 false _ A12.out).mono ?_);rintro e w' ⟨rfl,⟨nd,rfl⟩⟩));go_meet
     case rel=>exact ⟨_,(true),(by first|rfl|(simp;done)|(simp [*];done)),H',⟨by first|omega|exact Nat.le_refl _⟩,⟨dr A2⟩,⟨by exact tb HB⟩⟩
   ·replace c11:=Bool.eq_false_iff.mpr c11;subst c11
    have H1:(spec_Apply.j0 k a1 a2 a3 a4 true A0 A1 A3 A4 A5 A6)=some r:=by rw [if_neg (show ¬ (false=true) by decide)] at H;exact H
    clear H;have H:=H1;clear H1;have H':=Aside0.mk H;clear H;have hcz20__:=c6_ A2;have hfz20__:=f_ A2;go_wp2_with (first|((with_reducible refine gate_callee (f:=69) rfl ?_);refine goesL_ (some 13) rfl rfl Try.func69 (by kernel_rfl) rfl #[.int .i64 A1,.int .i64 1,.int .i64 8] rfl ml ?_;(with_reducible refine (spec_l01In.calls A1 1 8 true _ A8.out).mono ?_);rintro e w' ⟨rfl,⟨nd,rfl⟩⟩;refine ⟨_,rfl,?_⟩)|(go_at_call 69;(try simp only [i64_w,i32_w]);(with_reducible refine (spec_l01In.calls a1 1 8 false _ A10.out).mono ?_);rintro e w' ⟨rfl,⟨nd,rfl⟩⟩));go_meet
    case rel=>exact ⟨_,(true),(by first|rfl|(simp;done)|(simp [*];done)),H',⟨by first|omega|exact Nat.le_refl _⟩,⟨dr A2⟩,⟨by exact tb HB⟩⟩
  ·replace c9:=Bool.eq_false_iff.mpr c9;subst c9
   have H1:(spec_Apply.j0 k a1 a2 a3 a4 true A0 A1 A3 A4 A5 A6)=some r:=by rw [if_neg (show ¬ (false=true) by decide)] at H;exact H
   clear H;have H:=H1;clear H1;have H':=Aside0.mk H;clear H;have hcz21__:=c6_ A2;have hfz21__:=f_ A2;go_wp2_with (first|((with_reducible refine gate_callee (f:=69) rfl ?_);refine goesL_ (some 13) rfl rfl Try.func69 (by kernel_rfl) rfl #[.int .i64 A1,.int .i64 1,.int .i64 8] rfl ml ?_;(with_reducible refine (spec_l01In.calls A1 1 8 false _ A8.out).mono ?_);rintro e w' ⟨rfl,⟨nd,rfl⟩⟩;refine ⟨_,rfl,?_⟩));go_meet
   case rel=>exact ⟨_,(true),(by first|rfl|(simp;done)|(simp [*];done)),H',⟨by first|omega|exact Nat.le_refl _⟩,⟨dr A2⟩,⟨by exact tb HB⟩⟩
 case rest =>
  clear HC6;(try clear c1);(try clear p2);(try clear c6);(try clear c9);(try clear c11);(try clear c13);(try clear c15);(try clear hcz17__);(try clear hcz18__);(try clear hcz19__);(try clear hcz20__);(try clear hcz21__);(try clear hfz17__);(try clear hfz18__);(try clear hfz19__);(try clear hfz20__);(try clear hfz21__);obtain ⟨kq,Ac,rfl,HA,HJ5,A2,HB⟩:=hcut
  cases kq with
  | zero=>exact absurd HA.out (by simp [spec_Apply.j0])
  | succ kj5 =>
   have H:=HA.out;clear HA;simp only [spec_Apply.j0] at H
   by_cases c22:Ac=true
   ·subst c22
    have H1:(some 0)=some r:=by rw [if_pos rfl] at H;exact H
    clear H;have H:=H1;clear H1;obtain rfl:=os H;go_wp2;go_ret;exact ⟨er,tb HB⟩
   ·replace c22:=Bool.eq_false_iff.mpr c22;subst c22
    have H1:(if A0=0 then (some A3) else (if A0=2 then ((spec_Flip.f kj5 A1 a2).bind fun Ad=>(some Ad)) else (if A0=3 then (some (Go.bits .and .i64 a2 a3)) else (if A0=4 then (some (Go.bits .or .i64 a2 a3)) else (if A0=5 then (some (Go.bits .xor .i64 a2 a3)) else (if A0=6 then ((spec_Add.f kj5 A1 a2 a3).bind fun Ae=>(some Ae)) else (if A0=7 then ((spec_Sub.f kj5 A1 a2 a3).bind fun Af=>(some Af)) else (if A0=8 then ((spec_Mul.f kj5 A1 a2 a3).bind fun Ag=>(some Ag)) else (if A0=9 then ((spec_Div.f kj5 A1 a2 a3).bind fun Ah=>(some Ah)) else (if A0=10 then ((spec_Rem.f kj5 A1 a2 a3).bind fun Ai=>(some Ai)) else (if A0=11 then ((spec_Shl.f kj5 A1 a2 a3).bind fun Aj=>(some Aj)) else (if A0=12 then ((spec_Shr.f kj5 A1 a2 a3).bind fun Ak=>(some Ak)) else (if A0=13 then ((spec_l01Bool.f (a2 == a3)).bind fun Al=>(some Al)) else (if A0=14 then ((spec_Less.f kj5 a1 a2 a3).bind fun Am=>(some Am)) else (if A0=15 then ((spec_LessSigned.f kj5 a1 a2 a3).bind fun An=>(some An)) else (if A0=16 then (if A1 < a1 then (some a3) else ((spec_l01Pow2.f kj5 (wrap64 (A1 - a1))).bind fun Ao=>(some (wrap64 ((wrap64 (a2 * Ao)) + a3))))) else (if A0=17 then ((spec_Slice.f kj5 a1 a2 A3 A1).bind fun Ap=>(some Ap)) else (if A0=18 then (if a2=1 then (some a3) else (some a4)) else (some 0)))))))))))))))))))=some r:=by rw [if_neg (show ¬ (false=true) by decide)] at H;exact H
    clear H;have H:=H1;clear H1
    by_cases c23:A0=0
    ·rw [if_pos c23] at H;have c23b0:(A0 == 0)=true:=beq_iff_eq.mpr c23;have c23b1:(A0 != 0)=false:=bne_eq_false_iff_eq.mpr c23;clear c23;obtain rfl:=os H;have hcz24__:=c6_ A2;have hfz24__:=f_ A2;go_wp2;go_ret;exact ⟨er,tb HB⟩
    ·rw [if_neg c23] at H;have c23b0:(A0 == 0)=false:=beq_eq_false_iff_ne.mpr c23;have c23b1:(A0 != 0)=true:=bne_iff_ne.mpr c23
     by_cases c25:A0=2
     ·rw [if_pos c25] at H;have c25b0:(A0 == 2)=true:=beq_iff_eq.mpr c25;have c25b1:(A0 != 2)=false:=bne_eq_false_iff_eq.mpr c25;clear c25;replace H:=ob H;obtain ⟨Ad,A260,H⟩:=H;replace H:(some Ad)=some r:=H;have A26:=Aside0.mk A260;clear A260;obtain rfl:=os H;have hcz27__:=c6_ A2;have hfz27__:=f_ A2;go_wp2_with (first|((with_reducible refine gate_callee (f:=152) rfl ?_);refine goesL_ (some 46) rfl rfl Try.func152 (by kernel_rfl) rfl #[.int .i64 A1,.int .i64 a2] rfl ml ?_;(with_reducible refine (spec_Flip.calls kj5 A1 a2 Ad _ A26.out).mono ?_);rintro e w' ⟨rfl,⟨nd,rfl⟩⟩;refine ⟨_,rfl,?_⟩));go_ret;exact ⟨er,tb HB⟩
     ·rw [if_neg c25] at H;have c25b0:(A0 == 2)=false:=beq_eq_false_iff_ne.mpr c25;have c25b1:(A0 != 2)=true:=bne_iff_ne.mpr c25
      by_cases c28:A0=3
      ·rw [if_pos c28] at H;have c28b0:(A0 == 3)=true:=beq_iff_eq.mpr c28;have c28b1:(A0 != 3)=false:=bne_eq_false_iff_eq.mpr c28;clear c28;obtain rfl:=os H;have hcz29__:=c6_ A2;have hfz29__:=f_ A2;go_wp2;go_ret;exact ⟨er,tb HB⟩
      ·rw [if_neg c28] at H;have c28b0:(A0 == 3)=false:=beq_eq_false_iff_ne.mpr c28;have c28b1:(A0 != 3)=true:=bne_iff_ne.mpr c28
       by_cases c30:A0=4
       ·rw [if_pos c30] at H;have c30b0:(A0 == 4)=true:=beq_iff_eq.mpr c30;have c30b1:(A0 != 4)=false:=bne_eq_false_iff_eq.mpr c30;clear c30;obtain rfl:=os H;have hcz31__:=c6_ A2;have hfz31__:=f_ A2;go_wp2;go_ret;exact ⟨er,tb HB⟩
       ·rw [if_neg c30] at H;have c30b0:(A0 == 4)=false:=beq_eq_false_iff_ne.mpr c30;have c30b1:(A0 != 4)=true:=bne_iff_ne.mpr c30
        by_cases c32:A0=5
        ·rw [if_pos c32] at H;have c32b0:(A0 == 5)=true:=beq_iff_eq.mpr c32;have c32b1:(A0 != 5)=false:=bne_eq_false_iff_eq.mpr c32;clear c32;obtain rfl:=os H;have hcz33__:=c6_ A2;have hfz33__:=f_ A2;go_wp2;go_ret;exact ⟨er,tb HB⟩
        ·rw [if_neg c32] at H;have c32b0:(A0 == 5)=false:=beq_eq_false_iff_ne.mpr c32;have c32b1:(A0 != 5)=true:=bne_iff_ne.mpr c32
         by_cases c34:A0=6
         ·rw [if_pos c34] at H;have c34b0:(A0 == 6)=true:=beq_iff_eq.mpr c34;have c34b1:(A0 != 6)=false:=bne_eq_false_iff_eq.mpr c34;clear c34;replace H:=ob H;obtain ⟨Ae,A350,H⟩:=H;replace H:(some Ae)=some r:=H;have A35:=Aside0.mk A350;clear A350;obtain rfl:=os H;have hcz36__:=c6_ A2;have hfz36__:=f_ A2;go_wp2_with (first|((with_reducible refine gate_callee (f:=153) rfl ?_);refine goesL_ (some 68) rfl rfl Try.func153 (by kernel_rfl) rfl #[.int .i64 A1,.int .i64 a2,.int .i64 a3] rfl ml ?_;(with_reducible refine (spec_Add.calls kj5 A1 a2 a3 Ae _ A35.out).mono ?_);rintro e w' ⟨rfl,⟨nd,rfl⟩⟩;refine ⟨_,rfl,?_⟩));go_ret;exact ⟨er,tb HB⟩
         ·rw [if_neg c34] at H;have c34b0:(A0 == 6)=false:=beq_eq_false_iff_ne.mpr c34;have c34b1:(A0 != 6)=true:=bne_iff_ne.mpr c34
          by_cases c37:A0=7
          ·rw [if_pos c37] at H;have c37b0:(A0 == 7)=true:=beq_iff_eq.mpr c37;have c37b1:(A0 != 7)=false:=bne_eq_false_iff_eq.mpr c37;clear c37;replace H:=ob H;obtain ⟨Af,A380,H⟩:=H;replace H:(some Af)=some r:=H;have A38:=Aside0.mk A380;clear A380;obtain rfl:=os H;have hcz39__:=c6_ A2;have hfz39__:=f_ A2;go_wp2_with (first|((with_reducible refine gate_callee (f:=154) rfl ?_);refine goesL_ (some 75) rfl rfl Try.func154 (by kernel_rfl) rfl #[.int .i64 A1,.int .i64 a2,.int .i64 a3] rfl ml ?_;(with_reducible refine (spec_Sub.calls kj5 A1 a2 a3 Af _ A38.out).mono ?_);rintro e w' ⟨rfl,⟨nd,rfl⟩⟩;refine ⟨_,rfl,?_⟩));go_ret;exact ⟨er,tb HB⟩
          ·rw [if_neg c37] at H;have c37b0:(A0 == 7)=false:=beq_eq_false_iff_ne.mpr c37;have c37b1:(A0 != 7)=true:=bne_iff_ne.mpr c37
           by_cases c40:A0=8
           ·rw [if_pos c40] at H;have c40b0:(A0 == 8)=true:=beq_iff_eq.mpr c40;have c40b1:(A0 != 8)=false:=bne_eq_false_iff_eq.mpr c40;clear c40;replace H:=ob H;obtain ⟨Ag,A410,H⟩:=H;replace H:(some Ag)=some r:=H;have A41:=Aside0.mk A410;clear A410;obtain rfl:=os H;have hcz42__:=c6_ A2;have hfz42__:=f_ A2;go_wp2_with (first|((with_reducible refine gate_callee (f:=155) rfl ?_);refine goesL_ (some 82) rfl rfl Try.func155 (by kernel_rfl) rfl #[.int .i64 A1,.int .i64 a2,.int .i64 a3] rfl ml ?_;(with_reducible refine (spec_Mul.calls kj5 A1 a2 a3 Ag _ A41.out).mono ?_);rintro e w' ⟨rfl,⟨nd,rfl⟩⟩;refine ⟨_,rfl,?_⟩));go_ret;exact ⟨er,tb HB⟩
           ·rw [if_neg c40] at H;have c40b0:(A0 == 8)=false:=beq_eq_false_iff_ne.mpr c40;have c40b1:(A0 != 8)=true:=bne_iff_ne.mpr c40
            by_cases c43:A0=9
            ·rw [if_pos c43] at H;have c43b0:(A0 == 9)=true:=beq_iff_eq.mpr c43;have c43b1:(A0 != 9)=false:=bne_eq_false_iff_eq.mpr c43;clear c43;replace H:=ob H;obtain ⟨Ah,A440,H⟩:=H;replace H:(some Ah)=some r:=H;have A44:=Aside0.mk A440;clear A440;obtain rfl:=os H;have hcz45__:=c6_ A2;have hfz45__:=f_ A2;go_wp2_with (first|((with_reducible refine gate_callee (f:=156) rfl ?_);refine goesL_ (some 89) rfl rfl Try.func156 (by kernel_rfl) rfl #[.int .i64 A1,.int .i64 a2,.int .i64 a3] rfl ml ?_;(with_reducible refine (spec_Div.calls kj5 A1 a2 a3 Ah _ A44.out).mono ?_);rintro e w' ⟨rfl,⟨nd,rfl⟩⟩;refine ⟨_,rfl,?_⟩));go_ret;exact ⟨er,tb HB⟩
            ·rw [if_neg c43] at H;have c43b0:(A0 == 9)=false:=beq_eq_false_iff_ne.mpr c43;have c43b1:(A0 != 9)=true:=bne_iff_ne.mpr c43
             by_cases c46:A0=10
             ·rw [if_pos c46] at H;have c46b0:(A0 == 10)=true:=beq_iff_eq.mpr c46;have c46b1:(A0 != 10)=false:=bne_eq_false_iff_eq.mpr c46;clear c46;replace H:=ob H;obtain ⟨Ai,A470,H⟩:=H;replace H:(some Ai)=some r:=H;have A47:=Aside0.mk A470;clear A470;obtain rfl:=os H;have hcz48__:=c6_ A2;have hfz48__:=f_ A2;go_wp2_with (first|((with_reducible refine gate_callee (f:=157) rfl ?_);refine goesL_ (some 96) rfl rfl Try.func157 (by kernel_rfl) rfl #[.int .i64 A1,.int .i64 a2,.int .i64 a3] rfl ml ?_;(with_reducible refine (spec_Rem.calls kj5 A1 a2 a3 Ai _ A47.out).mono ?_);rintro e w' ⟨rfl,⟨nd,rfl⟩⟩;refine ⟨_,rfl,?_⟩));go_ret;exact ⟨er,tb HB⟩
             ·rw [if_neg c46] at H;have c46b0:(A0 == 10)=false:=beq_eq_false_iff_ne.mpr c46;have c46b1:(A0 != 10)=true:=bne_iff_ne.mpr c46
              by_cases c49:A0=11
              ·rw [if_pos c49] at H;have c49b0:(A0 == 11)=true:=beq_iff_eq.mpr c49;have c49b1:(A0 != 11)=false:=bne_eq_false_iff_eq.mpr c49;clear c49;replace H:=ob H;obtain ⟨Aj,A500,H⟩:=H;replace H:(some Aj)=some r:=H;have A50:=Aside0.mk A500;clear A500;obtain rfl:=os H;have hcz51__:=c6_ A2;have hfz51__:=f_ A2;go_wp2_with (first|((with_reducible refine gate_callee (f:=158) rfl ?_);refine goesL_ (some 103) rfl rfl Try.func158 (by kernel_rfl) rfl #[.int .i64 A1,.int .i64 a2,.int .i64 a3] rfl ml ?_;(with_reducible refine (spec_Shl.calls kj5 A1 a2 a3 Aj _ A50.out).mono ?_);rintro e w' ⟨rfl,⟨nd,rfl⟩⟩;refine ⟨_,rfl,?_⟩));go_ret;exact ⟨er,tb HB⟩
              ·rw [if_neg c49] at H;have c49b0:(A0 == 11)=false:=beq_eq_false_iff_ne.mpr c49;have c49b1:(A0 != 11)=true:=bne_iff_ne.mpr c49
               by_cases c52:A0=12
               ·rw [if_pos c52] at H;have c52b0:(A0 == 12)=true:=beq_iff_eq.mpr c52;have c52b1:(A0 != 12)=false:=bne_eq_false_iff_eq.mpr c52;clear c52;replace H:=ob H;obtain ⟨Ak,A530,H⟩:=H;replace H:(some Ak)=some r:=H;have A53:=Aside0.mk A530;clear A530;obtain rfl:=os H;have hcz54__:=c6_ A2;have hfz54__:=f_ A2;go_wp2_with (first|((with_reducible refine gate_callee (f:=159) rfl ?_);refine goesL_ (some 110) rfl rfl Try.func159 (by kernel_rfl) rfl #[.int .i64 A1,.int .i64 a2,.int .i64 a3] rfl ml ?_;(with_reducible refine (spec_Shr.calls kj5 A1 a2 a3 Ak _ A53.out).mono ?_);rintro e w' ⟨rfl,⟨nd,rfl⟩⟩;refine ⟨_,rfl,?_⟩));go_ret;exact ⟨er,tb HB⟩
               ·rw [if_neg c52] at H;have c52b0:(A0 == 12)=false:=beq_eq_false_iff_ne.mpr c52;have c52b1:(A0 != 12)=true:=bne_iff_ne.mpr c52
                by_cases c55:A0=13
                ·rw [if_pos c55] at H;have c55b0:(A0 == 13)=true:=beq_iff_eq.mpr c55;have c55b1:(A0 != 13)=false:=bne_eq_false_iff_eq.mpr c55;clear c55;replace H:=ob H;obtain ⟨Al,A560,H⟩:=H;replace H:(some Al)=some r:=H;have A56:=Aside0.mk A560;clear A560;obtain rfl:=os H;have hcz57__:=c6_ A2;have hfz57__:=f_ A2;go_wp2_with (first|((with_reducible refine gate_callee (f:=160) rfl ?_);refine goesL_ (some 116) rfl rfl Try.func160 (by kernel_rfl) rfl #[.bool (a2 == a3)] rfl ml ?_;(with_reducible refine (spec_l01Bool.calls (a2 == a3) Al _ A56.out).mono ?_);rintro e w' ⟨rfl,⟨nd,rfl⟩⟩;refine ⟨_,rfl,?_⟩));go_ret;exact ⟨er,tb HB⟩
                ·rw [if_neg c55] at H;have c55b0:(A0 == 13)=false:=beq_eq_false_iff_ne.mpr c55;have c55b1:(A0 != 13)=true:=bne_iff_ne.mpr c55
                 by_cases c58:A0=14
                 ·rw [if_pos c58] at H;have c58b0:(A0 == 14)=true:=beq_iff_eq.mpr c58;have c58b1:(A0 != 14)=false:=bne_eq_false_iff_eq.mpr c58;clear c58;replace H:=ob H;obtain ⟨Am,A590,H⟩:=H;replace H:(some Am)=some r:=H;have A59:=Aside0.mk A590;clear A590;obtain rfl:=os H;have hcz60__:=c6_ A2;have hfz60__:=f_ A2;go_wp2_with (first|((with_reducible refine gate_callee (f:=161) rfl ?_);refine goesL_ (some 122) rfl rfl Try.func161 (by kernel_rfl) rfl #[.int .i64 a1,.int .i64 a2,.int .i64 a3] rfl ml ?_;(with_reducible refine (spec_Less.calls kj5 a1 a2 a3 Am _ A59.out).mono ?_);rintro e w' ⟨rfl,⟨nd,rfl⟩⟩;refine ⟨_,rfl,?_⟩));go_ret;exact ⟨er,tb HB⟩
                 ·rw [if_neg c58] at H;have c58b0:(A0 == 14)=false:=beq_eq_false_iff_ne.mpr c58;have c58b1:(A0 != 14)=true:=bne_iff_ne.mpr c58
                  by_cases c61:A0=15
                  ·rw [if_pos c61] at H;have c61b0:(A0 == 15)=true:=beq_iff_eq.mpr c61;have c61b1:(A0 != 15)=false:=bne_eq_false_iff_eq.mpr c61;clear c61;replace H:=ob H;obtain ⟨An,A620,H⟩:=H;replace H:(some An)=some r:=H;have A62:=Aside0.mk A620;clear A620;obtain rfl:=os H;have hcz63__:=c6_ A2;have hfz63__:=f_ A2;go_wp2_with (first|((with_reducible refine gate_callee (f:=162) rfl ?_);refine goesL_ (some 128) rfl rfl Try.func162 (by kernel_rfl) rfl #[.int .i64 a1,.int .i64 a2,.int .i64 a3] rfl ml ?_;(with_reducible refine (spec_LessSigned.calls kj5 a1 a2 a3 An _ A62.out).mono ?_);rintro e w' ⟨rfl,⟨nd,rfl⟩⟩;refine ⟨_,rfl,?_⟩));go_ret;exact ⟨er,tb HB⟩
                  ·rw [if_neg c61] at H;have c61b0:(A0 == 15)=false:=beq_eq_false_iff_ne.mpr c61;have c61b1:(A0 != 15)=true:=bne_iff_ne.mpr c61
                   by_cases c64:A0=16
                   ·rw [if_pos c64] at H;have c64b0:(A0 == 16)=true:=beq_iff_eq.mpr c64;have c64b1:(A0 != 16)=false:=bne_eq_false_iff_eq.mpr c64;clear c64
                    by_cases c65:A1 < a1
                    ·rw [if_pos c65] at H;have c65b0:decide (A1 < a1)=true:=decide_eq_true c65;clear c65;obtain rfl:=os H;have hcz66__:=c6_ A2;have hfz66__:=f_ A2;go_wp2;go_ret;exact ⟨er,tb HB⟩
                    ·rw [if_neg c65] at H;have c65b0:decide (A1 < a1)=false:=decide_eq_false c65;clear c65;replace H:=ob H;obtain ⟨Ao,A670,H⟩:=H;replace H:(some (wrap64 ((wrap64 (a2 * Ao)) + a3)))=some r:=H;have A67:=Aside0.mk A670;clear A670;obtain rfl:=os H;have hcz68__:=c6_ A2;have hfz68__:=f_ A2;go_wp2_with (first|((with_reducible refine gate_callee (f:=70) rfl ?_);refine goesL_ (some 141) rfl rfl Try.func70 (by kernel_rfl) rfl #[.int .i64 (wrap64 (A1 - a1))] rfl ml ?_;(with_reducible refine (spec_l01Pow2.calls kj5 (wrap64 (A1 - a1)) Ao _ A67.out).mono ?_);rintro e w' ⟨rfl,⟨nd,rfl⟩⟩;refine ⟨_,rfl,?_⟩));go_ret;exact ⟨er,tb HB⟩
                   ·rw [if_neg c64] at H;have c64b0:(A0 == 16)=false:=beq_eq_false_iff_ne.mpr c64;have c64b1:(A0 != 16)=true:=bne_iff_ne.mpr c64
                    by_cases c69:A0=17
                    ·rw [if_pos c69] at H;have c69b0:(A0 == 17)=true:=beq_iff_eq.mpr c69;have c69b1:(A0 != 17)=false:=bne_eq_false_iff_eq.mpr c69;clear c69;replace H:=ob H;obtain ⟨Ap,A700,H⟩:=H;replace H:(some Ap)=some r:=H;have A70:=Aside0.mk A700;clear A700;obtain rfl:=os H;have hcz71__:=c6_ A2;have hfz71__:=f_ A2;go_wp2_with (first|((with_reducible refine gate_callee (f:=163) rfl ?_);refine goesL_ (some 153) rfl rfl Try.func163 (by kernel_rfl) rfl #[.int .i64 a1,.int .i64 a2,.int .i64 A3,.int .i64 A1] rfl ml ?_;(with_reducible refine (spec_Slice.calls kj5 a1 a2 A3 A1 Ap _ A70.out).mono ?_);rintro e w' ⟨rfl,⟨nd,rfl⟩⟩;refine ⟨_,rfl,?_⟩));go_ret;exact ⟨er,tb HB⟩
                    ·rw [if_neg c69] at H;have c69b0:(A0 == 17)=false:=beq_eq_false_iff_ne.mpr c69;have c69b1:(A0 != 17)=true:=bne_iff_ne.mpr c69
                     by_cases c72:A0=18
                     ·rw [if_pos c72] at H;have c72b0:(A0 == 18)=true:=beq_iff_eq.mpr c72;have c72b1:(A0 != 18)=false:=bne_eq_false_iff_eq.mpr c72;clear c72
                      by_cases c73:a2=1
                      ·rw [if_pos c73] at H;have c73b0:(a2 == 1)=true:=beq_iff_eq.mpr c73;have c73b1:(a2 != 1)=false:=bne_eq_false_iff_eq.mpr c73;clear c73;obtain rfl:=os H;have hcz74__:=c6_ A2;have hfz74__:=f_ A2;go_wp2;go_ret;exact ⟨er,tb HB⟩
                      ·rw [if_neg c73] at H;have c73b0:(a2 == 1)=false:=beq_eq_false_iff_ne.mpr c73;have c73b1:(a2 != 1)=true:=bne_iff_ne.mpr c73;obtain rfl:=os H;have hcz75__:=c6_ A2;have hfz75__:=f_ A2;go_wp2;go_ret;exact ⟨er,tb HB⟩
                     ·rw [if_neg c72] at H;have c72b0:(A0 == 18)=false:=beq_eq_false_iff_ne.mpr c72;have c72b1:(A0 != 18)=true:=bne_iff_ne.mpr c72;obtain rfl:=os H;have hcz76__:=c6_ A2;have hfz76__:=f_ A2;go_wp2;go_ret;exact ⟨er,tb HB⟩
section
variable {W:World} {go ck b n:Nat} {kn:List Int} {ok:Nat→Prop}
theorem on_get (h:Kd.R (Kd.int .i64) 3 W b ok (.slice (some ⟨go,0,none⟩) n ck) kn) (i:Int) (h0:0≤i) (h1:i < n):W.cell? ⟨go,i.toNat,none⟩=some (.int .i64 (rd kn i))∧W.frozen? ⟨go,i.toNat,none⟩=false:=Kd.R_celln (0:Int) h i h0 h1
theorem on_put (h:Kd.R (Kd.int .i64) 3 W b ok (.slice (some ⟨go,0,none⟩) n ck) kn) (i:Int) (v:Int):Kd.R (Kd.int .i64) 3 (W.setCell ⟨go,i.toNat,none⟩ (.int .i64 v)) b ok (.slice (some ⟨go,0,none⟩) n ck) (kn.set i.toNat v)∧W.grownBy (W.setCell ⟨go,i.toNat,none⟩ (.int .i64 v)) (some go):=Kd.R_putg h i v
end
def onL:Nat→List S99→List Int→List Int→Int→Int→List Int→Option (Int × List Int)
 | 0,_,_,_,_,_,_=>none
 | k + 1,l0,l2,ps,j,wd,zs=>if j < (ps.length:Int) then (if 0≤j∧j < (zs.length:Int) then (if 0≤rd ps j∧rd ps j < (l2.length:Int) then (if j=0 then (if rd ps j < (l0.length:Int) then onL k l0 l2 ps (wrap64 (j + 1)) (rd_T99 l0 (rd ps j)).f1 (zs.set j.toNat (rd l2 (rd ps j))) else none) else onL k l0 l2 ps (wrap64 (j + 1)) wd (zs.set j.toNat (rd l2 (rd ps j)))) else none) else none) else some (wd,zs)
def spec_l04One.f (k:Nat) (l0:List S99) (l1 l2:List Int) (i:Int):Option Int:=if 0≤i∧i < (l0.length:Int) then (if (rd_T99 l0 i).f0=1 then (if 0≤(rd_T99 l0 i).f2∧(rd_T99 l0 i).f2 < (l1.length:Int) then some (rd l1 (rd_T99 l0 i).f2) else none) else (spec_l02Quant.f (rd_T99 l0 i).f0).bind fun t=>if t=true then none else (spec_Parts.f k (rd_T99 l0 i).f0 (rd_T99 l0 i).f1 (rd_T99 l0 i).f2 (rd_T99 l0 i).f3 (rd_T99 l0 i).f4 (rd_T99 l0 i).f5).bind fun ps=>(onL k l0 l2 ps 0 1 [0,0,0]).bind fun q=>spec_Apply.f k (rd_T99 l0 i).f0 (rd_T99 l0 i).f1 (rd_T99 l0 i).f2 (rd_T99 l0 i).f3 (rd_T99 l0 i).f4 (rd_T99 l0 i).f5 q.1 (rd q.2 0) (rd q.2 1) (rd q.2 2)) else none
set_option maxHeartbeats 8000000 in
set_option maxRecDepth 100000 in
theorem spec_l04One.calls (k:Nat) (A0:Option Addr) (c0:Nat) (l0:List (S99)) (A1:Option Addr) (c1:Nat) (l1:List Int) (A2:Option Addr) (c2:Nat) (l2:List Int) (i:Int) (r:Int) (w:World) (hr0:Kd.C k99 w A0 l0.length l0) (hc0:l0.length≤c0) (hr1:Kd.C (Kd.int .i64) w A1 l1.length l1) (hc1:l1.length≤c1) (hr2:Kd.C (Kd.int .i64) w A2 l2.length l2) (hc2:l2.length≤c2) (h:spec_l04One.f k l0 l1 l2 i=some r) :
  Calls Try.prog 118 #[.slice A0 l0.length c0,.slice A1 l1.length c1,.slice A2 l2.length c2,.int .i64 i] w fun e w'=>e = .returned (.int .i64 r)∧Below w.heap.size w w':=by
 have HR0:=Aside0.mk hr0;have HR1:=Aside0.mk hr1;have HR2:=Aside0.mk hr2;clear hr0 hr1 hr2 hc0 hc1 hc2;unfold spec_l04One.f at h
 by_cases c3:0≤i∧i < (l0.length:Int)
 case neg=>rw [if_neg c3] at h;cases h
 rw [if_pos c3] at h;obtain ⟨ad,e_,hx0,hx1,hx2,hx3,hx4,hx5⟩:=at_T99 HR0.out i c3.1 c3.2;cases e_;obtain ⟨c3,c4⟩:=c3;have d3:decide (0≤i)=true:=decide_eq_true c3;have d4:decide (i < (l0.length:Int))=true:=decide_eq_true c4;replace c3:=eq_true c3;replace c4:=eq_true c4;have H:=Aside0.mk h;clear h
 go_enter Try.func118,Try.ntmps118
 go_upto_region 2 with (first|((with_reducible refine gate_dst (N:=9) rfl ?_);refine bx (N:=9) (cs:=#[.int .i64 0,.int .i64 0,.int .i64 0,.int .i64 0,.int .i64 0,.int .i64 0]) (t:=99) ?_;intro gn hg w1 hbox hb;have BN0:=Aside0.mk hbox;have HX0:=Aside0.mk hb;have GN:=Aside0.mk (show w.heap.size≤gn by rw [hg];exact Nat.le_refl _);have hz0:w1.cell? ⟨gn,0,none⟩=some (.int .i64 0):=(blk_cell BN0.out 0).trans rfl;have hfz0:=blk_frozen BN0.out 0;have hz1:w1.cell? ⟨gn,1,none⟩=some (.int .i64 0):=(blk_cell BN0.out 1).trans rfl;have hfz1:=blk_frozen BN0.out 1;have hz2:w1.cell? ⟨gn,2,none⟩=some (.int .i64 0):=(blk_cell BN0.out 2).trans rfl;have hfz2:=blk_frozen BN0.out 2;have hz3:w1.cell? ⟨gn,3,none⟩=some (.int .i64 0):=(blk_cell BN0.out 3).trans rfl;have hfz3:=blk_frozen BN0.out 3;have hz4:w1.cell? ⟨gn,4,none⟩=some (.int .i64 0):=(blk_cell BN0.out 4).trans rfl;have hfz4:=blk_frozen BN0.out 4;have hz5:w1.cell? ⟨gn,5,none⟩=some (.int .i64 0):=(blk_cell BN0.out 5).trans rfl;have hfz5:=blk_frozen BN0.out 5;clear hg hbox hb))
 have HB5:Aside0 (Below w.heap.size w ((((((w1.setCell ⟨gn,0,none⟩ (.int .i64 (rd_T99 l0 i).f0)).setCell ⟨gn,1,none⟩ (.int .i64 (rd_T99 l0 i).f1)).setCell ⟨gn,2,none⟩ (.int .i64 (rd_T99 l0 i).f2)).setCell ⟨gn,3,none⟩ (.int .i64 (rd_T99 l0 i).f3)).setCell ⟨gn,4,none⟩ (.int .i64 (rd_T99 l0 i).f4)).setCell ⟨gn,5,none⟩ (.int .i64 (rd_T99 l0 i).f5))):=⟨below_set (below_set (below_set (below_set (below_set (below_set (HX0.out) GN.out) GN.out) GN.out) GN.out) GN.out) GN.out⟩;have BN5:Aside0 (((((((w1.setCell ⟨gn,0,none⟩ (.int .i64 (rd_T99 l0 i).f0)).setCell ⟨gn,1,none⟩ (.int .i64 (rd_T99 l0 i).f1)).setCell ⟨gn,2,none⟩ (.int .i64 (rd_T99 l0 i).f2)).setCell ⟨gn,3,none⟩ (.int .i64 (rd_T99 l0 i).f3)).setCell ⟨gn,4,none⟩ (.int .i64 (rd_T99 l0 i).f4)).setCell ⟨gn,5,none⟩ (.int .i64 (rd_T99 l0 i).f5)).heap[gn]? = some (.cells #[.int .i64 (rd_T99 l0 i).f0,.int .i64 (rd_T99 l0 i).f1,.int .i64 (rd_T99 l0 i).f2,.int .i64 (rd_T99 l0 i).f3,.int .i64 (rd_T99 l0 i).f4,.int .i64 (rd_T99 l0 i).f5] 99 (0,0))):=⟨blk_put (cs:=#[.int .i64 (rd_T99 l0 i).f0,.int .i64 (rd_T99 l0 i).f1,.int .i64 (rd_T99 l0 i).f2,.int .i64 (rd_T99 l0 i).f3,.int .i64 (rd_T99 l0 i).f4,.int .i64 0]) (blk_put (cs:=#[.int .i64 (rd_T99 l0 i).f0,.int .i64 (rd_T99 l0 i).f1,.int .i64 (rd_T99 l0 i).f2,.int .i64 (rd_T99 l0 i).f3,.int .i64 0,.int .i64 0]) (blk_put (cs:=#[.int .i64 (rd_T99 l0 i).f0,.int .i64 (rd_T99 l0 i).f1,.int .i64 (rd_T99 l0 i).f2,.int .i64 0,.int .i64 0,.int .i64 0]) (blk_put (cs:=#[.int .i64 (rd_T99 l0 i).f0,.int .i64 (rd_T99 l0 i).f1,.int .i64 0,.int .i64 0,.int .i64 0,.int .i64 0]) (blk_put (cs:=#[.int .i64 (rd_T99 l0 i).f0,.int .i64 0,.int .i64 0,.int .i64 0,.int .i64 0,.int .i64 0]) (blk_put (cs:=#[.int .i64 0,.int .i64 0,.int .i64 0,.int .i64 0,.int .i64 0,.int .i64 0]) (BN0.out) 0 (.int .i64 (rd_T99 l0 i).f0) rfl) 1 (.int .i64 (rd_T99 l0 i).f1) rfl) 2 (.int .i64 (rd_T99 l0 i).f2) rfl) 3 (.int .i64 (rd_T99 l0 i).f3) rfl) 4 (.int .i64 (rd_T99 l0 i).f4) rfl) 5 (.int .i64 (rd_T99 l0 i).f5) rfl⟩;clear hz0 hfz0 hz1 hfz1 hz2 hfz2 hz3 hfz3 hz4 hfz4 hz5 hfz5 BN0 HX0 hx0 hx1 hx2 hx3 hx4 hx5;generalize ((((((w1.setCell ⟨gn,0,none⟩ (.int .i64 (rd_T99 l0 i).f0)).setCell ⟨gn,1,none⟩ (.int .i64 (rd_T99 l0 i).f1)).setCell ⟨gn,2,none⟩ (.int .i64 (rd_T99 l0 i).f2)).setCell ⟨gn,3,none⟩ (.int .i64 (rd_T99 l0 i).f3)).setCell ⟨gn,4,none⟩ (.int .i64 (rd_T99 l0 i).f4)).setCell ⟨gn,5,none⟩ (.int .i64 (rd_T99 l0 i).f5))=w5 at BN5 HB5 ⊢;obtain ⟨hcn0,hcn1,hcn2,hcn3,hcn4,hcn5⟩:=c6_ BN5;have h:=H.out;clear H
 by_cases c5:(rd_T99 l0 i).f0=1
 ·rw [if_pos c5] at h;have d5:((rd_T99 l0 i).f0 == 1)=true:=beq_iff_eq.2 c5;clear c5
  by_cases c6:0≤(rd_T99 l0 i).f2∧(rd_T99 l0 i).f2 < (l1.length:Int)
  case neg=>rw [if_neg c6] at h;cases h
  rw [if_pos c6] at h;obtain rfl:=Option.some.inj h;clear h;obtain ⟨ad1,e_,hy⟩:=Kd.at_int HR1.out _ c6.1 c6.2;cases e_;replace hy:=ct HB5 hy;obtain ⟨c6,c7⟩:=c6;have d6:decide (0≤(rd_T99 l0 i).f2)=true:=decide_eq_true c6;have d7:decide ((rd_T99 l0 i).f2 < (l1.length:Int))=true:=decide_eq_true c7;replace c6:=eq_true c6;replace c7:=eq_true c7;go_wp2;go_ret;exact ⟨rfl,HB5.out⟩
 rw [if_neg c5] at h;have d5:((rd_T99 l0 i).f0 == 1)=false:=beq_eq_false_iff_ne.2 c5;clear c5;obtain ⟨t,ht,h⟩:=Option.bind_eq_some_iff.1 h;have HQ:=Aside0.mk ht;clear ht
 cases t with
 | true=>rw [if_pos rfl] at h;cases h
 | false =>
 rw [if_neg (by decide)] at h;obtain ⟨ps,hp,h⟩:=Option.bind_eq_some_iff.1 h;obtain ⟨⟨wd',zs'⟩,hl,h⟩:=Option.bind_eq_some_iff.1 h;have HP:=Aside0.mk hp;have HLL:=Aside0.mk hl;have HAP0:=Aside0.mk h;clear hp hl h;go_wp2_with (first|(go_at_call 103;(try simp only [i64_w,i32_w]);(with_reducible refine (spec_l02Quant.calls (rd_T99 l0 i).f0 false _ HQ.out).mono ?_);rintro e w' ⟨rfl,⟨nd,rfl⟩⟩)|((with_reducible refine gate_dst (N:=66) rfl ?_);refine Kd.R_lit (Kd.int .i64) _ 3 ?hg (N:=66) ?hd (xs:=([0,0,0]:List Int)) (inner:=[.int .i64 0,.int .i64 0,.int .i64 0]) (ok:=fun _=>True) (okp:=fun _=>True) ?hr ?hp (fun _ hk=>hk) trivial (Below.refl _ _) (Nat.le_refl _) (by simp) ?_;(case hd=>rfl);(case hg=>rfl);(case hr=>first|(go_simp;done)|(go_simp;rfl));(case hp=>exact (Reps.one (show Kd.M (Kd.int .i64) _ _ _ 0 [.int .i64 0] from rfl) (Reps.one (show Kd.M (Kd.int .i64) _ _ _ 0 [.int .i64 0] from rfl) (Reps.one (show Kd.M (Kd.int .i64) _ _ _ 0 [.int .i64 0] from rfl) (Reps.none _ _)))));intro v102 w6 ho hb hg_ hnew_;clear hg_ hnew_;have HZ6:=Aside0.mk (Kd.R_lower ho (pw_below_drewN HB5.out _).size);have HB6:=Aside0.mk (below_step (pw_below_drewN HB5.out _) hb);have BN6:=Aside0.mk (blk_below (blk_drewN BN5.out _) hb);clear ho hb;obtain ⟨gz,cz,ez,GZ,GZL,_⟩:=Kd.R_form HZ6.out (by simp);subst ez;have GZ_:=Aside0.mk GZ;have GZL_:=Aside0.mk GZL;clear GZ GZL;clear hcn0 hcn1 hcn2 hcn3 hcn4 hcn5;obtain ⟨hcn0,hcn1,hcn2,hcn3,hcn4,hcn5⟩:=c6_ BN6)|((with_reducible refine gate_callee (f:=99) rfl ?_);(try (refine gate_guard (by rfl) ?_;dsimp only));refine goesL_ (some 68) rfl rfl Try.func99 (by kernel_rfl) rfl #[.agg #[.int .i64 (rd_T99 l0 i).f0,.int .i64 (rd_T99 l0 i).f1,.int .i64 (rd_T99 l0 i).f2,.int .i64 (rd_T99 l0 i).f3,.int .i64 (rd_T99 l0 i).f4,.int .i64 (rd_T99 l0 i).f5]] rfl ml ?_;(with_reducible refine (spec_Parts.calls k (rd_T99 l0 i).f0 (rd_T99 l0 i).f1 (rd_T99 l0 i).f2 (rd_T99 l0 i).f3 (rd_T99 l0 i).f4 (rd_T99 l0 i).f5 ps _ HP.out).mono ?_);rintro e w7 ⟨v_,rfl,ho,hb⟩;refine ⟨_,rfl,?_⟩;have HRp:=Aside0.mk (Kd.R_mono (Kd.R_bound (Kd.R_lower ho (Nat.le_refl _))) (ok':=fun k=>k≠gz) (fun k hk=>by have:=hk.2.1;have:=GZL_.out;omega));have HRq:=Aside0.mk (Kd.R_lower HRp.out HB6.out.size);have HZ7:=Aside0.mk (Kd.R_below HZ6.out hb);have HB7:=Aside0.mk (below_step HB6.out hb);have BN7:=Aside0.mk (blk_below BN6.out hb);clear ho hb;clear hcn0 hcn1 hcn2 hcn3 hcn4 hcn5;obtain ⟨Ap,cp,ep⟩:=Kd.R_slice HRq.out;subst ep))
 have NZ:=Aside0.mk (show gn≠gz from fun e=>by
  obtain ⟨cs,hcs⟩:=Kd.R_typed HZ7.out gz rfl;rw [← e,BN7.out] at hcs
  simp at hcs)
 go_loopg [15,17] k (fun kq v15 v17 wr=>∃ (wd j:Int) (zs:List Int),v15 = .int .i64 wd∧v17 = .int .i64 j∧Aside0 (onL kq l0 l2 ps j wd zs=some (wd',zs'))∧Aside0 (kq≤k)∧Aside0 (zs.length=3)∧Aside0 (wr.heap[gn]? = some (.cells #[.int .i64 (rd_T99 l0 i).f0,.int .i64 (rd_T99 l0 i).f1,.int .i64 (rd_T99 l0 i).f2,.int .i64 (rd_T99 l0 i).f3,.int .i64 (rd_T99 l0 i).f4,.int .i64 (rd_T99 l0 i).f5] 99 (0,0)))∧Aside0 (Kd.R (Kd.int .i64) 3 wr w.heap.size (fun k=>k≠gz) (.slice Ap ps.length cp) ps)∧Aside0 (Kd.R (Kd.int .i64) 3 wr w.heap.size (fun _=>True) (.slice (some ⟨gz,0,none⟩) 3 cz) zs)∧Aside0 (Below w.heap.size w wr))
 case atStart=>exact ⟨1,0,[0,0,0],rfl,rfl,HLL,⟨Nat.le_refl _⟩,⟨rfl⟩,BN7,HRq,⟨HZ7.out⟩,HB7⟩
 case round =>
  clear HLL BN7 HRq HRp HZ7 HB7 d3 d4 c3 c4 d5;obtain ⟨wd,j,zs,rfl,rfl,HA,HK1,HL,BN,HR,HZ,HB⟩:=hrel
  cases gk with
  | zero=>exact absurd HA.out (by simp [onL])
  | succ k1 =>
  have H:=HA.out;clear HA;simp only [onL] at H
  by_cases c3:j < (ps.length:Int)
  ·rw [if_pos c3] at H
   by_cases c4:0≤j∧j < (zs.length:Int)
   case neg=>rw [if_neg c4] at H;cases H
   rw [if_pos c4] at H
   by_cases c6:0≤rd ps j∧rd ps j < (l2.length:Int)
   case neg=>rw [if_neg c6] at H;cases H
   rw [if_pos c6] at H;rw [HL.out] at c4;obtain ⟨c4,c5⟩:=c4;obtain ⟨ap,e_,hp⟩:=Kd.at_int (Kd.R_reads' HR.out).2.2 j c4 c3;cases e_;obtain ⟨ad2,e_,hy⟩:=Kd.at_int HR2.out _ c6.1 c6.2;cases e_;replace hy:=ct HB hy;obtain ⟨hz1,hf1⟩:=on_get HZ.out j c4 c5;have HZs:=Aside0.mk (on_put HZ.out j (rd l2 (rd ps j))).1;have HRs:=Aside0.mk (Kd.R_grown HR.out (on_put HZ.out j (rd l2 (rd ps j))).2 (fun k hk e=>hk (by injection e)));have HBs:=Aside0.mk (below_set (j:=j.toNat) (v := .int .i64 (rd l2 (rd ps j))) HB.out GZ_.out);obtain ⟨ap2,e_,hp2⟩:=Kd.at_int (Kd.R_reads' HRs.out).2.2 j c4 c3
   obtain rfl:ap=ap2:=by injection e_
   clear e_;have d3:decide (j < (ps.length:Int))=true:=decide_eq_true c3;have d4:decide (0≤j)=true:=decide_eq_true c4;have d7:decide (j < 3)=true:=decide_eq_true c5;obtain ⟨c6,c7⟩:=c6;have C6:=Aside0.mk c6;have d6:decide (0≤rd ps j)=true:=decide_eq_true c6;have d8:decide (rd ps j < (l2.length:Int))=true:=decide_eq_true c7;replace c3:=eq_true c3;replace c4:=eq_true c4;replace c5:(j < 3)=True:=eq_true c5;replace c6:=eq_true c6;replace c7:=eq_true c7
   by_cases z0:j=0
   ·rw [if_pos z0] at H;have e0:(j == 0)=true:=beq_iff_eq.2 z0
    by_cases c8:rd ps j < (l0.length:Int)
    case neg=>rw [if_neg c8] at H;cases H
    rw [if_pos c8] at H;obtain ⟨ad3,e_,_,hx1,_⟩:=at_T99 HR0.out (rd ps j) C6.out c8
    obtain rfl:ad=ad3:=by injection e_
    clear e_;replace hx1:=ct HBs hx1;have d9:decide (rd ps j < (l0.length:Int))=true:=decide_eq_true c8;replace c8:=eq_true c8;have H':=Aside0.mk H;clear H z0;go_wp2;go_roundg k1
    case measure=>have:=HK1.out;omega
    case rel=>exact ⟨_,wrap64 (j + 1),_,(by first|rfl|(simp;done)),(by first|rfl|(simp;done)),H',⟨by have:=HK1.out;omega⟩,⟨by rw [List.length_set];exact HL.out⟩,⟨blk_far BN.out NZ.out _⟩,HRs,HZs,HBs⟩
   ·rw [if_neg z0] at H;have e0:(j == 0)=false:=beq_eq_false_iff_ne.2 z0;have H':=Aside0.mk H;clear H z0;go_wp2;go_roundg k1
    case measure=>have:=HK1.out;omega
    case rel=>exact ⟨_,wrap64 (j + 1),_,(by first|rfl|(simp;done)),(by first|rfl|(simp;done)),H',⟨by have:=HK1.out;omega⟩,⟨by rw [List.length_set];exact HL.out⟩,⟨blk_far BN.out NZ.out _⟩,HRs,HZs,HBs⟩
  ·rw [if_neg c3] at H;have d3:decide (j < (ps.length:Int))=false:=decide_eq_false c3;clear c3
   obtain ⟨rfl,rfl⟩:wd=wd'∧zs=zs':=by simpa using H
   have HAP:Aside0 (spec_Apply.f k (rd_T99 l0 i).f0 (rd_T99 l0 i).f1 (rd_T99 l0 i).f2 (rd_T99 l0 i).f3 (rd_T99 l0 i).f4 (rd_T99 l0 i).f5 wd (rd zs 0) (rd zs 1) (rd zs 2)=some r):=⟨HAP0.out⟩;clear H HAP0;go_wp2;have BN8:=Aside0.mk (blk_drew BN.out);have HZ8:=Aside0.mk (Kd.R_drew HZ.out);have HB8:=Aside0.mk (below_drew1 HB.out);refine start_ (n:=13) (S:=fun w'=>w'.cell? ⟨gn,0,none⟩=some (.int .i64 (rd_T99 l0 i).f0)∧w'.cell? ⟨gn,1,none⟩=some (.int .i64 (rd_T99 l0 i).f1)∧w'.cell? ⟨gn,2,none⟩=some (.int .i64 (rd_T99 l0 i).f2)∧w'.cell? ⟨gn,3,none⟩=some (.int .i64 (rd_T99 l0 i).f3)∧w'.cell? ⟨gn,4,none⟩=some (.int .i64 (rd_T99 l0 i).f4)∧w'.cell? ⟨gn,5,none⟩=some (.int .i64 (rd_T99 l0 i).f5)∧w'.cell? ⟨gz,0,none⟩=some (.int .i64 (rd zs 0))∧w'.cell? ⟨gz,1,none⟩=some (.int .i64 (rd zs 1))∧w'.cell? ⟨gz,2,none⟩=some (.int .i64 (rd zs 2))) (ds:=[11]) (tf 0 13) (by kernel_rfl) rfl rfl ⟨(blk_cell BN8.out 0).trans rfl,(blk_cell BN8.out 1).trans rfl,(blk_cell BN8.out 2).trans rfl,(blk_cell BN8.out 3).trans rfl,(blk_cell BN8.out 4).trans rfl,(blk_cell BN8.out 5).trans rfl,(on_get HZ8.out 0 (by decide) (by decide)).1,(on_get HZ8.out 1 (by decide) (by decide)).1,(on_get HZ8.out 2 (by decide) (by decide)).1⟩ (fun hHeld=>?_);generalize wr.drew=w8 at BN8 HZ8 HB8 hHeld ⊢;refine pure_ (i:=1) (N:=some 96) (v:=?_) (a':=?_) #[false,true,false,false,false,false,false,false,false,false,false,false,false] rfl rfl (by kernel_rfl) (fun _ _ _ h=>h) (Or.inl ⟨by rfl,?_⟩) ?_ ?_;rotate_left
   ·intro w';go_simp;with_reducible rfl
   rotate_left
   ·simp only [Act.put,s1,s2,s3,i64_w,i32_w];rfl
   refine pure_ (i:=2) (N:=some 97) (v:=?_) (a':=?_) #[false,true,true,false,false,false,false,false,false,false,false,false,false] rfl rfl (by kernel_rfl) (fun _ _ _ h=>h) (Or.inl ⟨by rfl,?_⟩) ?_ ?_;rotate_left
   ·intro w';go_simp;with_reducible rfl
   rotate_left
   ·simp only [Act.put,s1,s2,s3,i64_w,i32_w];rfl
   refine pure_ (i:=3) (N:=some 98) (v:=?_) (a':=?_) #[false,true,true,true,false,false,false,false,false,false,false,false,false] rfl rfl (by kernel_rfl) (fun _ _ _ h=>h) (Or.inl ⟨by rfl,?_⟩) ?_ ?_;rotate_left
   ·intro w';go_simp;with_reducible rfl
   rotate_left
   ·simp only [Act.put,s1,s2,s3,i64_w,i32_w];rfl
   refine pure_ (i:=5) (N:=some 100) (v:=?_) (a':=?_) #[false,true,true,true,false,true,false,false,false,false,false,false,false] rfl rfl (by kernel_rfl) (fun _ _ _ h=>h) (Or.inl ⟨by rfl,?_⟩) ?_ ?_;rotate_left
   ·intro w';go_simp;with_reducible rfl
   rotate_left
   ·simp only [Act.put,s1,s2,s3,i64_w,i32_w];rfl
   refine pure_ (i:=6) (N:=some 101) (v:=?_) (a':=?_) #[false,true,true,true,false,true,true,false,false,false,false,false,false] rfl rfl (by kernel_rfl) (fun _ _ _ h=>h) (Or.inl ⟨by rfl,?_⟩) ?_ ?_;rotate_left
   ·intro w';go_simp;with_reducible rfl
   rotate_left
   ·simp only [Act.put,s1,s2,s3,i64_w,i32_w];rfl
   refine pure_ (i:=8) (N:=some 103) (v:=?_) (a':=?_) #[false,true,true,true,false,true,true,false,true,false,false,false,false] rfl rfl (by kernel_rfl) (fun _ _ _ h=>h) (Or.inl ⟨by rfl,?_⟩) ?_ ?_;rotate_left
   ·intro w';go_simp;with_reducible rfl
   rotate_left
   ·simp only [Act.put,s1,s2,s3,i64_w,i32_w];rfl
   refine pure_ (i:=9) (N:=some 104) (v:=?_) (a':=?_) #[false,true,true,true,false,true,true,false,true,true,false,false,false] rfl rfl (by kernel_rfl) (fun _ _ _ h=>h) (Or.inl ⟨by rfl,?_⟩) ?_ ?_;rotate_left
   ·intro w';go_simp;with_reducible rfl
   rotate_left
   ·simp only [Act.put,s1,s2,s3,i64_w,i32_w];rfl
   refine take_ (i:=0) (N:=some 95) (v:=?_) (a':=?_) #[true,true,true,true,false,true,true,false,true,true,false,false,false] rfl rfl (by kernel_rfl) (fun _ _ _ h=>h) (Or.inl ⟨by rfl,?_⟩) hHeld ?_ ?_;rotate_left
   ·rintro w' ⟨s0,s1,s2,s3,s4,s5,s6,s7,s8⟩;go_simp;with_reducible rfl
   rotate_left
   ·simp only [Act.put,s1,s2,s3,i64_w,i32_w];rfl
   refine take_ (i:=4) (N:=some 99) (v:=?_) (a':=?_) #[true,true,true,true,true,true,true,false,true,true,false,false,false] rfl rfl (by kernel_rfl) (fun _ _ _ h=>h) (Or.inl ⟨by rfl,?_⟩) hHeld ?_ ?_;rotate_left
   ·rintro w' ⟨s0,s1,s2,s3,s4,s5,s6,s7,s8⟩;go_simp;with_reducible rfl
   rotate_left
   ·simp only [Act.put,s1,s2,s3,i64_w,i32_w];rfl
   refine take_ (i:=7) (N:=some 102) (v:=?_) (a':=?_) (tf 10 3) rfl rfl (by kernel_rfl) (fun _ _ _ h=>h) (Or.inl ⟨by rfl,?_⟩) hHeld ?_ ?_;rotate_left
   ·rintro w' ⟨s0,s1,s2,s3,s4,s5,s6,s7,s8⟩;go_simp;with_reducible rfl
   rotate_left
   ·simp only [Act.put,s1,s2,s3,i64_w,i32_w];rfl
   refine take_ (i:=10) (N:=some 105) (v:=?_) (a':=?_) (tf 11 2) rfl rfl (by kernel_rfl) (fun _ _ _ h=>h) (Or.inl ⟨by rfl,?_⟩) hHeld ?_ ?_;rotate_left
   ·rintro w' ⟨s0,s1,s2,s3,s4,s5,s6,s7,s8⟩;go_simp;with_reducible rfl
   rotate_left
   ·simp only [Act.put,s1,s2,s3,i64_w,i32_w];rfl
   refine last_ (i:=11) (N:=some 106) (tf 12 1) rfl rfl (by kernel_rfl) (by decide) (fun K hK=>?_);refine goes_ Try.func135 (by kernel_rfl) rfl #[.agg #[.int .i64 (rd_T99 l0 i).f0,.int .i64 (rd_T99 l0 i).f1,.int .i64 (rd_T99 l0 i).f2,.int .i64 (rd_T99 l0 i).f3,.int .i64 (rd_T99 l0 i).f4,.int .i64 (rd_T99 l0 i).f5],.int .i64 wd,.int .i64 (rd zs 0),.int .i64 (rd zs 1),.int .i64 (rd zs 2)] (by rfl) rfl rfl (by simp only [List.map_toArray,List.map_cons,List.map_nil];rfl) ?_
   with_reducible refine (spec_Apply.calls k (rd_T99 l0 i).f0 (rd_T99 l0 i).f1 (rd_T99 l0 i).f2 (rd_T99 l0 i).f3 (rd_T99 l0 i).f4 (rd_T99 l0 i).f5 wd (rd zs 0) (rd zs 1) (rd zs 2) r _ HAP.out).mono ?_
   rintro e w9 ⟨rfl,hb⟩;refine ⟨_,rfl,?_⟩;have HB9:=Aside0.mk (below_step HB8.out hb);refine hK.out _ _ ?_;clear hK K;refine norm_ (a':=?_) ?_ ?_;rotate_left
   ·show Act.put _ (some 106) _=_
    simp only [Act.put,s1,s2,s3,i64_w,i32_w];rfl
   refine pure_ (i:=12) (N:=some 8) (v:=?_) (a':=?_) (tf 13 0) rfl rfl (by kernel_rfl) (fun _ _ _ h=>h) (Or.inl ⟨by rfl,?_⟩) ?_ ?_;rotate_left
   ·intro w';go_simp;with_reducible rfl
   rotate_left
   ·simp only [Act.put,s1,s2,s3,i64_w,i32_w];rfl
   refine done_ (by kernel_rfl) ?_;go_wp2;go_ret;exact ⟨rfl,HB9.out⟩
def atF (l0:List S99) (l1:List Int) (a2:Int):Nat→List Int→Int→Option Int
 | 0,_,_=>none
 | k + 1,vals,i=>if i≤a2 then (spec_l04One.f k l0 l1 vals i).bind fun v=>if vals.length < 17592186044416 then atF l0 l1 a2 k (vals ++ [v]) (wrap64 (i + 1)) else none else (if 0≤a2∧a2 < (vals.length:Int) then some (rd vals a2) else none)
def spec_l04At.f (k:Nat) (l0:List S99) (l1:List Int) (a2:Int):Option Int:=atF l0 l1 a2 k [] 0
set_option maxHeartbeats 8000000 in
set_option maxRecDepth 100000 in
theorem spec_l04At.calls (k:Nat) (A0:Option Addr) (c0:Nat) (l0:List (S99)) (A1:Option Addr) (c1:Nat) (l1:List Int) (a2:Int) (r:Int) (w:World) (hr0:Kd.C k99 w A0 l0.length l0) (hc0:l0.length≤c0) (hr1:Kd.C (Kd.int .i64) w A1 l1.length l1) (hc1:l1.length≤c1) (h:spec_l04At.f k l0 l1 a2=some r) :
  Calls Try.prog 83 #[.slice A0 l0.length c0,.slice A1 l1.length c1,.int .i64 a2] w fun e w'=>e = .returned (.int .i64 r)∧Below w.heap.size w w':=by
 have HR0:=Aside0.mk hr0;have HR1:=Aside0.mk hr1;have HC0:=Aside0.mk hc0;have HC1:=Aside0.mk hc1;have HF:Aside0 (atF l0 l1 a2 k [] 0=some r):=⟨h⟩;clear hr0 hr1 hc0 hc1 h
 go_enter Try.func83,Try.ntmps83
 go_wp2_with (first|((with_reducible refine gate_dst (N:=9) rfl ?_);refine Kd.R_lit (Kd.int .i64) _ 3 ?hg (N:=9) ?hd (xs:=([]:List Int)) (inner:=[]) (ok:=fun _=>True) (okp:=fun _=>True) ?hr ?hp (fun _ hk=>hk) trivial (Below.refl _ _) (Nat.le_refl _) (by simp) ?_;(case hd=>rfl);(case hg=>rfl);(case hr=>first|(go_simp;done)|(go_simp;rfl));(case hp=>exact (Reps.none _ _));intro v102 w1 ho hb hg_ hnew_;clear hg_ hnew_;have HO1:=Aside0.mk ho;have HB1:=Aside0.mk hb;clear ho hb))
 go_loopg [7,8] k (fun kq v7 v8 wr=>∃ (i:Int) (vals:List Int),v8 = .int .i64 i∧Aside0 (atF l0 l1 a2 kq vals i=some r)∧Aside0 (kq≤k)∧Aside0 (Kd.R (Kd.int .i64) 3 wr w.heap.size (fun _=>True) v7 vals)∧Aside0 (Below w.heap.size w wr))
 case atStart=>exact ⟨0,[],rfl,HF,⟨Nat.le_refl _⟩,HO1,HB1⟩
 case round =>
  clear HF HO1 HB1;obtain ⟨i,vals,rfl,HA,HK1,HO,HB⟩:=hrel;obtain ⟨Av,cv,ev⟩:=Kd.R_slice HO.out;subst ev
  cases gk with
  | zero=>exact absurd HA.out (by simp [atF])
  | succ k1 =>
  have H:=HA.out;clear HA;simp only [atF] at H
  by_cases c3:i≤a2
  ·rw [if_pos c3] at H;obtain ⟨v,hv,H⟩:=Option.bind_eq_some_iff.1 H
   by_cases c4:vals.length < 17592186044416
   case neg=>rw [if_neg c4] at H;cases H
   rw [if_pos c4] at H;have LM:=Aside0.mk c4;have HV:=Aside0.mk hv;have H':=Aside0.mk H;have d3:decide (i≤a2)=true:=decide_eq_true c3;clear hv H c3 c4;go_wp2_with (first|((with_reducible refine gate_callee (f:=118) rfl ?_);(try (refine gate_guard (by rfl) ?_;dsimp only));refine goesL_ (some 20) rfl rfl Try.func118 (by kernel_rfl) rfl #[.slice A0 l0.length c0,.slice A1 l1.length c1,.slice Av vals.length cv,.int .i64 i] rfl ml ?_;(with_reducible refine (spec_l04One.calls k1 A0 c0 l0 A1 c1 l1 Av cv vals i v _ (Kd.C_below HR0.out HB.out) HC0.out (Kd.C_below HR1.out HB.out) HC1.out (Kd.R_reads' HO.out).2.2 (Kd.R_reads' HO.out).2.1 HV.out).mono ?_);rintro e w5 ⟨rfl,hb⟩;refine ⟨_,rfl,?_⟩;have HO5:=Aside0.mk (Kd.R_below HO.out hb);have HB5:=Aside0.mk (below_step HB.out hb);clear hb)|((with_reducible refine gate_builtin (b := .append) (xs:=#[.tmp 15,.tmp 21]) rfl ?_);at_builtin;refine Kd.R_append (Kd.int .i64) (w0:=w) w.heap.size rfl (.tmp 15) (.tmp 21) 31 3 (.int .i64 0) 8 rfl Try.underlying31 info3 rfl (by decide) (by omega) (.slice Av vals.length cv) vals v [.int .i64 v] (fun _=>True) (fun _=>False) rfl rfl ?aP (fun _ hk=>hk.elim) ?aF ?aO ?aB ?aS ?aL ?_;(case aP=>exact rfl);(case aB=>exact (by repeat (first|(with_reducible first|exact HB5.out|apply below_alloc|apply pw_below_drewN|apply below_drew1)|exact HB5.out)));(case aF=>exact (fun _ _=>trivial));(case aO=>exact (ra HO5));(case aS=>exact (below_size (by repeat (first|(with_reducible first|exact HB5.out|apply below_alloc|apply pw_below_drewN|apply below_drew1)|exact HB5.out))));(case aL=>have:=LM.out;omega);intro v105 w6 ho hb hg hat;have HB6:=Aside0.mk hb;have HO6:=Aside0.mk ho;clear ho hb hg hat));go_roundg k1
   case measure=>have:=HK1.out;omega
   case rel=>exact ⟨wrap64 (i + 1),vals ++ [v],(by first|rfl|(simp;done)),H',⟨by have:=HK1.out;omega⟩,HO6,HB6⟩
  ·rw [if_neg c3] at H;have d3:decide (i≤a2)=false:=decide_eq_false c3;clear c3
   by_cases c6:0≤a2∧a2 < (vals.length:Int)
   case neg=>rw [if_neg c6] at H;cases H
   rw [if_pos c6] at H;obtain rfl:=os H;obtain ⟨ad1,e_,hy⟩:=Kd.at_int (Kd.R_reads' HO.out).2.2 _ c6.1 c6.2;cases e_;obtain ⟨c6,c7⟩:=c6;have d6:decide (0≤a2)=true:=decide_eq_true c6;have d7:decide (a2 < (vals.length:Int))=true:=decide_eq_true c7;replace c6:=eq_true c6;replace c7:=eq_true c7;clear H;go_wp2;go_ret;exact ⟨rfl,HB.out⟩
end Go.Proofs.Ythipjoioicmcnaa.G
